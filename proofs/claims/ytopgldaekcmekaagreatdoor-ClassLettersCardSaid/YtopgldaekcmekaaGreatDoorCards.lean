/-
  DERIVED. GIVEN WITH THE SEED: THE CARDS: each row of YtopgldaekcmekaaGreatDoorRows.lean that lists a variable, with what it lists TIED to the program's text (the seventh form; the later family's looks); each row that meets fmt, with fmt's text TOLD by the authors' own Lean function (tested against real Go, not proved from fmt's source: count such statements apart). THE CARD IS WHAT COUNTS. Prove the row's statement (the work); the ties are given (YtopgldaekcmekaaGreatDoorTie.lean); close each card by the builder's one call (the guide's Derived/Test/ToyasCard.lean, 'card_holds'). Laid BY PROGRAM, IN A SANDBOX (cutbox-door.mjs). By AI agents, Wed Nov 11 2026. No macro, syntax, notation, axiom, sorry.
-/
import Derived.Test.YtopgldaekcmekaaGreatDoorRows
import GoSem.ClaimSeven
namespace Go.Proofs.YtopgldaekcmekaaGreatDoor
namespace Rows

/-- THE TIED CARD OF 'cottonpadlaw02.ClassClasses'. -/
def classClassesCard : Claim7 := { stood := { row := classClassesRow, standIns := [], harness := (true, "ebc87afea6e213b73bd202d5c0a959eb344b8c22741f0ea50d323ce4c6f9d9e0"), looks := true }, kinds := [], alts := [], laidByText := true, laidKinds := [.funcs], laidTests := true, laidLooks := .later }
def ClassClassesCardSaid : Prop := Claim7.holds Tryz.pinned (.plain (OpenSpec.ofChange classClassesSpec)) classClassesCard

/-- THE TIED CARD OF 'cottonpadlaw02.ClassEnds'. -/
def classEndsCard : Claim7 := { stood := { row := classEndsRow, standIns := [], harness := (true, "ebc87afea6e213b73bd202d5c0a959eb344b8c22741f0ea50d323ce4c6f9d9e0"), looks := true }, kinds := [], alts := [], laidByText := true, laidKinds := [.funcs], laidTests := true, laidLooks := .later }
def ClassEndsCardSaid : Prop := Claim7.holds Tryz.pinned (.plain (OpenSpec.ofChange classEndsSpec)) classEndsCard

/-- THE TIED CARD OF 'cottonpadlaw02.ClassLooser'. -/
def classLooserCard : Claim7 := { stood := { row := classLooserRow, standIns := [], harness := (true, "ebc87afea6e213b73bd202d5c0a959eb344b8c22741f0ea50d323ce4c6f9d9e0"), looks := true }, kinds := [], alts := [], laidByText := true, laidKinds := [.funcs], laidTests := true, laidLooks := .later }
def ClassLooserCardSaid : Prop := Claim7.holds Tryz.pinned (.plain (OpenSpec.ofChange classLooserSpec)) classLooserCard

/-- THE TIED CARD OF 'cottonpadlaw02.ClassMore'. -/
def classMoreCard : Claim7 := { stood := { row := classMoreRow, standIns := [], harness := (true, "ebc87afea6e213b73bd202d5c0a959eb344b8c22741f0ea50d323ce4c6f9d9e0"), looks := true }, kinds := [], alts := [], laidByText := true, laidKinds := [.funcs], laidTests := true, laidLooks := .later }
def ClassMoreCardSaid : Prop := Claim7.holds Tryz.pinned (.plain (OpenSpec.ofChange classMoreSpec)) classMoreCard

/-- THE TIED CARD OF 'cottonpadlaw02.ClassWider'. -/
def classWiderCard : Claim7 := { stood := { row := classWiderRow, standIns := [], harness := (true, "ebc87afea6e213b73bd202d5c0a959eb344b8c22741f0ea50d323ce4c6f9d9e0"), looks := true }, kinds := [], alts := [], laidByText := true, laidKinds := [.funcs], laidTests := true, laidLooks := .later }
def ClassWiderCardSaid : Prop := Claim7.holds Tryz.pinned (.plain (OpenSpec.ofChange classWiderSpec)) classWiderCard

/-- THE TIED CARD OF 'cottonpadlaw02.ClassLetters'. -/
def classLettersCard : Claim7 := { stood := { row := classLettersRow, standIns := [], harness := (true, "ebc87afea6e213b73bd202d5c0a959eb344b8c22741f0ea50d323ce4c6f9d9e0"), looks := true }, kinds := [], alts := [], laidByText := true, laidKinds := [.funcs], laidTests := true, laidLooks := .later }
def ClassLettersCardSaid : Prop := Claim7.holds Tryz.pinned (.plain (OpenSpec.ofChange classLettersSpec)) classLettersCard

/-- THE TIED CARD OF 'cottonpadlaw02.ClassStops'. -/
def classStopsCard : Claim7 := { stood := { row := classStopsRow, standIns := [], harness := (true, "ebc87afea6e213b73bd202d5c0a959eb344b8c22741f0ea50d323ce4c6f9d9e0"), looks := true }, kinds := [], alts := [], laidByText := true, laidKinds := [.funcs], laidTests := true, laidLooks := .later }
def ClassStopsCardSaid : Prop := Claim7.holds Tryz.pinned (.plain (OpenSpec.ofChange classStopsSpec)) classStopsCard

/-- THE TIED CARD OF 'cottonpadlaw02.ClassTrue'. -/
def classTrueCard : Claim7 := { stood := { row := classTrueRow, standIns := [], harness := (true, "ebc87afea6e213b73bd202d5c0a959eb344b8c22741f0ea50d323ce4c6f9d9e0"), looks := true }, kinds := [], alts := [], laidByText := true, laidKinds := [.funcs], laidTests := true, laidLooks := .later }
def ClassTrueCardSaid : Prop := Claim7.holds Tryz.pinned (.plain (OpenSpec.ofChange classTrueSpec)) classTrueCard

/-- THE TIED CARD OF 'cottonpadlaw02.ClassFurnace'. -/
def classFurnaceCard : Claim7 := { stood := { row := classFurnaceRow, standIns := [], harness := (true, "ebc87afea6e213b73bd202d5c0a959eb344b8c22741f0ea50d323ce4c6f9d9e0"), looks := true }, kinds := [], alts := [], laidByText := true, laidKinds := [.funcs], laidTests := true, laidLooks := .later }
def ClassFurnaceCardSaid : Prop := Claim7.holds Tryz.pinned (.plain (OpenSpec.ofChange classFurnaceSpec)) classFurnaceCard

/-- THE SECOND FORM's CARD OF 'cottonpadlaw02.ClassClasses'. -/
def classClassesUptoCard : Claim7 := { stood := { row := classClassesUptoRow, standIns := [], harness := (true, "ebc87afea6e213b73bd202d5c0a959eb344b8c22741f0ea50d323ce4c6f9d9e0"), looks := true }, kinds := [], alts := [], laidByText := true, laidKinds := [.funcs], laidTests := true, laidLooks := .later }
def ClassClassesUptoCardSaid : Prop := Claim7.holds Tryz.pinned (.plain (OpenSpec.upto classClassesSpec)) classClassesUptoCard

/-- THE SECOND FORM's CARD OF 'cottonpadlaw02.ClassEnds'. -/
def classEndsUptoCard : Claim7 := { stood := { row := classEndsUptoRow, standIns := [], harness := (true, "ebc87afea6e213b73bd202d5c0a959eb344b8c22741f0ea50d323ce4c6f9d9e0"), looks := true }, kinds := [], alts := [], laidByText := true, laidKinds := [.funcs], laidTests := true, laidLooks := .later }
def ClassEndsUptoCardSaid : Prop := Claim7.holds Tryz.pinned (.plain (OpenSpec.upto classEndsSpec)) classEndsUptoCard

/-- THE SECOND FORM's CARD OF 'cottonpadlaw02.ClassLooser'. -/
def classLooserUptoCard : Claim7 := { stood := { row := classLooserUptoRow, standIns := [], harness := (true, "ebc87afea6e213b73bd202d5c0a959eb344b8c22741f0ea50d323ce4c6f9d9e0"), looks := true }, kinds := [], alts := [], laidByText := true, laidKinds := [.funcs], laidTests := true, laidLooks := .later }
def ClassLooserUptoCardSaid : Prop := Claim7.holds Tryz.pinned (.plain (OpenSpec.upto classLooserSpec)) classLooserUptoCard

/-- THE SECOND FORM's CARD OF 'cottonpadlaw02.ClassMore'. -/
def classMoreUptoCard : Claim7 := { stood := { row := classMoreUptoRow, standIns := [], harness := (true, "ebc87afea6e213b73bd202d5c0a959eb344b8c22741f0ea50d323ce4c6f9d9e0"), looks := true }, kinds := [], alts := [], laidByText := true, laidKinds := [.funcs], laidTests := true, laidLooks := .later }
def ClassMoreUptoCardSaid : Prop := Claim7.holds Tryz.pinned (.plain (OpenSpec.upto classMoreSpec)) classMoreUptoCard

/-- THE SECOND FORM's CARD OF 'cottonpadlaw02.ClassWider'. -/
def classWiderUptoCard : Claim7 := { stood := { row := classWiderUptoRow, standIns := [], harness := (true, "ebc87afea6e213b73bd202d5c0a959eb344b8c22741f0ea50d323ce4c6f9d9e0"), looks := true }, kinds := [], alts := [], laidByText := true, laidKinds := [.funcs], laidTests := true, laidLooks := .later }
def ClassWiderUptoCardSaid : Prop := Claim7.holds Tryz.pinned (.plain (OpenSpec.upto classWiderSpec)) classWiderUptoCard

/-- THE SECOND FORM's CARD OF 'cottonpadlaw02.ClassLetters'. -/
def classLettersUptoCard : Claim7 := { stood := { row := classLettersUptoRow, standIns := [], harness := (true, "ebc87afea6e213b73bd202d5c0a959eb344b8c22741f0ea50d323ce4c6f9d9e0"), looks := true }, kinds := [], alts := [], laidByText := true, laidKinds := [.funcs], laidTests := true, laidLooks := .later }
def ClassLettersUptoCardSaid : Prop := Claim7.holds Tryz.pinned (.plain (OpenSpec.upto classLettersSpec)) classLettersUptoCard

/-- THE SECOND FORM's CARD OF 'cottonpadlaw02.ClassStops'. -/
def classStopsUptoCard : Claim7 := { stood := { row := classStopsUptoRow, standIns := [], harness := (true, "ebc87afea6e213b73bd202d5c0a959eb344b8c22741f0ea50d323ce4c6f9d9e0"), looks := true }, kinds := [], alts := [], laidByText := true, laidKinds := [.funcs], laidTests := true, laidLooks := .later }
def ClassStopsUptoCardSaid : Prop := Claim7.holds Tryz.pinned (.plain (OpenSpec.upto classStopsSpec)) classStopsUptoCard

/-- THE SECOND FORM's CARD OF 'cottonpadlaw02.ClassTrue'. -/
def classTrueUptoCard : Claim7 := { stood := { row := classTrueUptoRow, standIns := [], harness := (true, "ebc87afea6e213b73bd202d5c0a959eb344b8c22741f0ea50d323ce4c6f9d9e0"), looks := true }, kinds := [], alts := [], laidByText := true, laidKinds := [.funcs], laidTests := true, laidLooks := .later }
def ClassTrueUptoCardSaid : Prop := Claim7.holds Tryz.pinned (.plain (OpenSpec.upto classTrueSpec)) classTrueUptoCard

/-- THE SECOND FORM's CARD OF 'cottonpadlaw02.ClassFurnace'. -/
def classFurnaceUptoCard : Claim7 := { stood := { row := classFurnaceUptoRow, standIns := [], harness := (true, "ebc87afea6e213b73bd202d5c0a959eb344b8c22741f0ea50d323ce4c6f9d9e0"), looks := true }, kinds := [], alts := [], laidByText := true, laidKinds := [.funcs], laidTests := true, laidLooks := .later }
def ClassFurnaceUptoCardSaid : Prop := Claim7.holds Tryz.pinned (.plain (OpenSpec.upto classFurnaceSpec)) classFurnaceUptoCard
end Rows
end Go.Proofs.YtopgldaekcmekaaGreatDoor
