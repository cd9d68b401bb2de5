/-
  NARROWER THAN 'FOR EVERY INPUT', by the rows' own cells (each row's printed sentence says how): ClassClasses: laid · ClassEnds: laid · ClassLooser: laid · ClassMore: laid · ClassWider: laid · ClassLetters: laid · ClassStops: laid · ClassTrue: laid · ClassFurnace: laid.
  DERIVED. THE GIVEN ROWS OF THIS SEAT. 9 by the template 'for every input the law returns true; each argument reads behind the call as it read before'; 0 by the template 'total and deterministic' (their statements: YtopgldaekcmekaaGreatDoorTotals.lean).
  GIVEN WITH THE SEED: the statements are not yours to turn. If you find one false, say at which input.
  Laid BY PROGRAM, IN A SANDBOX (cutbox-rows.mjs): the forced cells as the released guide's own fill.sh prints them over the translation b048cf011649c3a6… (all of the seat's roots in one cut). By AI agents, Wed Nov 11 2026. No macro, syntax, notation, axiom, sorry.
-/
import Derived.Test.YtopgldaekcmekaaGreatDoorChecked
import GoSem.Claim
import GoSem.ClaimJoined
import GoSem.ClaimMapViews
import Derived.JoinedTies
import Derived.KernelRfl
namespace Go.Proofs.YtopgldaekcmekaaGreatDoor
/- THE CELL 'sum', in the pinned program and in every row, IS THE sha256 OF THE DUMP (.gsa) THAT YtopgldaekcmekaaGreatDoorProg.lean LOADS. Nothing in Lean hashes anything: it is a label: what it is worth is what the hold of that sum in a sandbox is worth. -/
noncomputable def Tryz.pinned : Pinned := { name := "ytopgldaekcmekaagreatdoor", sum := "b048cf011649c3a6de4b7cb1e237351ddb71265f215dc23c0b0478bb53d1c091", checked := Tryz.checked }
namespace Rows
def none {H : Type} : Left H := { results := [], args := [] }

/- WHAT THE LISTED PACKAGE-LEVEL VARIABLES READ AS WHEN THE CALL BEGINS. Each datum BY PROGRAM (the guide's laid-datum.mjs) off the statement by which the dump's own 'gosem.cut.vars' lays the variable. In a bare row this is a premise. The card (YtopgldaekcmekaaGreatDoorCards.lean) ties it to the program's text. -/
def laid_cottonpad_class_shows {H : Type} : DataW H := .iface "func table" (.agg [.agg [.iface "func" (.lit (.string [99, 111, 116, 116, 111, 110, 112, 97, 100, 47, 99, 108, 97, 115, 115, 46, 115, 104, 111, 119, 115, 36, 49]))], .agg [.iface "func" (.lit (.string [99, 111, 116, 116, 111, 110, 112, 97, 100, 47, 99, 108, 97, 115, 115, 46, 115, 104, 111, 119, 115, 36, 50]))]])

/-- 'cottonpadlaw02.ClassClasses': WHATEVER THE INPUT: true; the input reads as it did. -/
def classClassesSpec : ChangeSpec := { name := "classClasses", fn := fun _ => fun
  | [d1, d2] => { results := [.lit (.bool true)], args := [d1, d2] }
  | _ => none }
def classClassesRow : OpenClaim := { program := "ytopgldaekcmekaagreatdoor", sum := "b048cf011649c3a6de4b7cb1e237351ddb71265f215dc23c0b0478bb53d1c091", func := "cottonpad/cottonpadlaw02.ClassClasses", spec := "classClasses", unfollowed := true, recurses := true, named := ["cottonpad/class.shows"], plainKeys := false, apart := false, laid := [("cottonpad/class.shows", laid_cottonpad_class_shows)] }
def ClassClassesSaid : Prop := classClassesRow.holds Tryz.pinned (OpenSpec.ofChange classClassesSpec)

/-- ITS FALSE NEIGHBOUR: 'it returns false'. Refute it at one input. -/
def classClassesWrong : ChangeSpec := { name := "classClasses", fn := fun _ => fun
  | [d1, d2] => { results := [.lit (.bool false)], args := [d1, d2] }
  | _ => none }
def ClassClassesWrongFalsely : Prop := classClassesRow.holds Tryz.pinned (OpenSpec.ofChange classClassesWrong)

/-- 'cottonpadlaw02.ClassEnds': WHATEVER THE INPUT: true; the input reads as it did. -/
def classEndsSpec : ChangeSpec := { name := "classEnds", fn := fun _ => fun
  | [d1, d2] => { results := [.lit (.bool true)], args := [d1, d2] }
  | _ => none }
def classEndsRow : OpenClaim := { program := "ytopgldaekcmekaagreatdoor", sum := "b048cf011649c3a6de4b7cb1e237351ddb71265f215dc23c0b0478bb53d1c091", func := "cottonpad/cottonpadlaw02.ClassEnds", spec := "classEnds", unfollowed := true, recurses := true, named := ["cottonpad/class.shows"], plainKeys := false, apart := false, laid := [("cottonpad/class.shows", laid_cottonpad_class_shows)] }
def ClassEndsSaid : Prop := classEndsRow.holds Tryz.pinned (OpenSpec.ofChange classEndsSpec)

/-- ITS FALSE NEIGHBOUR: 'it returns false'. Refute it at one input. -/
def classEndsWrong : ChangeSpec := { name := "classEnds", fn := fun _ => fun
  | [d1, d2] => { results := [.lit (.bool false)], args := [d1, d2] }
  | _ => none }
def ClassEndsWrongFalsely : Prop := classEndsRow.holds Tryz.pinned (OpenSpec.ofChange classEndsWrong)

/-- 'cottonpadlaw02.ClassLooser': WHATEVER THE INPUT: true; the input reads as it did. -/
def classLooserSpec : ChangeSpec := { name := "classLooser", fn := fun _ => fun
  | [d1, d2, d3] => { results := [.lit (.bool true)], args := [d1, d2, d3] }
  | _ => none }
def classLooserRow : OpenClaim := { program := "ytopgldaekcmekaagreatdoor", sum := "b048cf011649c3a6de4b7cb1e237351ddb71265f215dc23c0b0478bb53d1c091", func := "cottonpad/cottonpadlaw02.ClassLooser", spec := "classLooser", unfollowed := true, recurses := true, named := ["cottonpad/class.shows"], plainKeys := false, apart := false, laid := [("cottonpad/class.shows", laid_cottonpad_class_shows)] }
def ClassLooserSaid : Prop := classLooserRow.holds Tryz.pinned (OpenSpec.ofChange classLooserSpec)

/-- ITS FALSE NEIGHBOUR: 'it returns false'. Refute it at one input. -/
def classLooserWrong : ChangeSpec := { name := "classLooser", fn := fun _ => fun
  | [d1, d2, d3] => { results := [.lit (.bool false)], args := [d1, d2, d3] }
  | _ => none }
def ClassLooserWrongFalsely : Prop := classLooserRow.holds Tryz.pinned (OpenSpec.ofChange classLooserWrong)

/-- 'cottonpadlaw02.ClassMore': WHATEVER THE INPUT: true; the input reads as it did. -/
def classMoreSpec : ChangeSpec := { name := "classMore", fn := fun _ => fun
  | [d1, d2, d3, d4] => { results := [.lit (.bool true)], args := [d1, d2, d3, d4] }
  | _ => none }
def classMoreRow : OpenClaim := { program := "ytopgldaekcmekaagreatdoor", sum := "b048cf011649c3a6de4b7cb1e237351ddb71265f215dc23c0b0478bb53d1c091", func := "cottonpad/cottonpadlaw02.ClassMore", spec := "classMore", unfollowed := true, recurses := true, named := ["cottonpad/class.shows"], plainKeys := false, apart := false, laid := [("cottonpad/class.shows", laid_cottonpad_class_shows)] }
def ClassMoreSaid : Prop := classMoreRow.holds Tryz.pinned (OpenSpec.ofChange classMoreSpec)

/-- ITS FALSE NEIGHBOUR: 'it returns false'. Refute it at one input. -/
def classMoreWrong : ChangeSpec := { name := "classMore", fn := fun _ => fun
  | [d1, d2, d3, d4] => { results := [.lit (.bool false)], args := [d1, d2, d3, d4] }
  | _ => none }
def ClassMoreWrongFalsely : Prop := classMoreRow.holds Tryz.pinned (OpenSpec.ofChange classMoreWrong)

/-- 'cottonpadlaw02.ClassWider': WHATEVER THE INPUT: true; the input reads as it did. -/
def classWiderSpec : ChangeSpec := { name := "classWider", fn := fun _ => fun
  | [d1, d2, d3, d4] => { results := [.lit (.bool true)], args := [d1, d2, d3, d4] }
  | _ => none }
def classWiderRow : OpenClaim := { program := "ytopgldaekcmekaagreatdoor", sum := "b048cf011649c3a6de4b7cb1e237351ddb71265f215dc23c0b0478bb53d1c091", func := "cottonpad/cottonpadlaw02.ClassWider", spec := "classWider", unfollowed := true, recurses := true, named := ["cottonpad/class.shows"], plainKeys := false, apart := false, laid := [("cottonpad/class.shows", laid_cottonpad_class_shows)] }
def ClassWiderSaid : Prop := classWiderRow.holds Tryz.pinned (OpenSpec.ofChange classWiderSpec)

/-- ITS FALSE NEIGHBOUR: 'it returns false'. Refute it at one input. -/
def classWiderWrong : ChangeSpec := { name := "classWider", fn := fun _ => fun
  | [d1, d2, d3, d4] => { results := [.lit (.bool false)], args := [d1, d2, d3, d4] }
  | _ => none }
def ClassWiderWrongFalsely : Prop := classWiderRow.holds Tryz.pinned (OpenSpec.ofChange classWiderWrong)

/-- 'cottonpadlaw02.ClassLetters': WHATEVER THE INPUT: true; the input reads as it did. -/
def classLettersSpec : ChangeSpec := { name := "classLetters", fn := fun _ => fun
  | [d] => { results := [.lit (.bool true)], args := [d] }
  | _ => none }
def classLettersRow : OpenClaim := { program := "ytopgldaekcmekaagreatdoor", sum := "b048cf011649c3a6de4b7cb1e237351ddb71265f215dc23c0b0478bb53d1c091", func := "cottonpad/cottonpadlaw02.ClassLetters", spec := "classLetters", unfollowed := true, recurses := true, named := ["cottonpad/class.shows"], plainKeys := false, apart := false, laid := [("cottonpad/class.shows", laid_cottonpad_class_shows)] }
def ClassLettersSaid : Prop := classLettersRow.holds Tryz.pinned (OpenSpec.ofChange classLettersSpec)

/-- ITS FALSE NEIGHBOUR: 'it returns false'. Refute it at one input. -/
def classLettersWrong : ChangeSpec := { name := "classLetters", fn := fun _ => fun
  | [d] => { results := [.lit (.bool false)], args := [d] }
  | _ => none }
def ClassLettersWrongFalsely : Prop := classLettersRow.holds Tryz.pinned (OpenSpec.ofChange classLettersWrong)

/-- 'cottonpadlaw02.ClassStops': WHATEVER THE INPUT: true; the input reads as it did. -/
def classStopsSpec : ChangeSpec := { name := "classStops", fn := fun _ => fun
  | [d1, d2] => { results := [.lit (.bool true)], args := [d1, d2] }
  | _ => none }
def classStopsRow : OpenClaim := { program := "ytopgldaekcmekaagreatdoor", sum := "b048cf011649c3a6de4b7cb1e237351ddb71265f215dc23c0b0478bb53d1c091", func := "cottonpad/cottonpadlaw02.ClassStops", spec := "classStops", unfollowed := true, recurses := true, named := ["cottonpad/class.shows"], plainKeys := false, apart := false, laid := [("cottonpad/class.shows", laid_cottonpad_class_shows)] }
def ClassStopsSaid : Prop := classStopsRow.holds Tryz.pinned (OpenSpec.ofChange classStopsSpec)

/-- ITS FALSE NEIGHBOUR: 'it returns false'. Refute it at one input. -/
def classStopsWrong : ChangeSpec := { name := "classStops", fn := fun _ => fun
  | [d1, d2] => { results := [.lit (.bool false)], args := [d1, d2] }
  | _ => none }
def ClassStopsWrongFalsely : Prop := classStopsRow.holds Tryz.pinned (OpenSpec.ofChange classStopsWrong)

/-- 'cottonpadlaw02.ClassTrue': WHATEVER THE INPUT: true; the input reads as it did. -/
def classTrueSpec : ChangeSpec := { name := "classTrue", fn := fun _ => fun
  | [d1, d2, d3] => { results := [.lit (.bool true)], args := [d1, d2, d3] }
  | _ => none }
def classTrueRow : OpenClaim := { program := "ytopgldaekcmekaagreatdoor", sum := "b048cf011649c3a6de4b7cb1e237351ddb71265f215dc23c0b0478bb53d1c091", func := "cottonpad/cottonpadlaw02.ClassTrue", spec := "classTrue", unfollowed := true, recurses := true, named := ["cottonpad/class.shows"], plainKeys := false, apart := false, laid := [("cottonpad/class.shows", laid_cottonpad_class_shows)] }
def ClassTrueSaid : Prop := classTrueRow.holds Tryz.pinned (OpenSpec.ofChange classTrueSpec)

/-- ITS FALSE NEIGHBOUR: 'it returns false'. Refute it at one input. -/
def classTrueWrong : ChangeSpec := { name := "classTrue", fn := fun _ => fun
  | [d1, d2, d3] => { results := [.lit (.bool false)], args := [d1, d2, d3] }
  | _ => none }
def ClassTrueWrongFalsely : Prop := classTrueRow.holds Tryz.pinned (OpenSpec.ofChange classTrueWrong)

/-- 'cottonpadlaw02.ClassFurnace': WHATEVER THE INPUT: true; the input reads as it did. -/
def classFurnaceSpec : ChangeSpec := { name := "classFurnace", fn := fun _ => fun
  | [d1, d2] => { results := [.lit (.bool true)], args := [d1, d2] }
  | _ => none }
def classFurnaceRow : OpenClaim := { program := "ytopgldaekcmekaagreatdoor", sum := "b048cf011649c3a6de4b7cb1e237351ddb71265f215dc23c0b0478bb53d1c091", func := "cottonpad/cottonpadlaw02.ClassFurnace", spec := "classFurnace", unfollowed := true, recurses := true, named := ["cottonpad/class.shows"], plainKeys := false, apart := false, laid := [("cottonpad/class.shows", laid_cottonpad_class_shows)] }
def ClassFurnaceSaid : Prop := classFurnaceRow.holds Tryz.pinned (OpenSpec.ofChange classFurnaceSpec)

/-- ITS FALSE NEIGHBOUR: 'it returns false'. Refute it at one input. -/
def classFurnaceWrong : ChangeSpec := { name := "classFurnace", fn := fun _ => fun
  | [d1, d2] => { results := [.lit (.bool false)], args := [d1, d2] }
  | _ => none }
def ClassFurnaceWrongFalsely : Prop := classFurnaceRow.holds Tryz.pinned (OpenSpec.ofChange classFurnaceWrong)

/- THE SECOND FORM. 'bulk': how many values and letters a reading holds, each counted each time it is reached (what is shared counts as often as it is met; a slice's spare places count too). A statement '..UptoSaid' is the law's where the arguments, and the package variables that the reading takes, are together of bulk at most 1048576: NARROWER than '..Said'. Prove '..Said' where nothing that the law and all that it calls make is longer than what came in: it says more and counts as full. Else prove '..UptoSaid'. A law counts once. -/
mutual
def uptoBulk {H : Type} : DataW H → Nat
  | .lit (.string bytes) => bytes.length + 1
  | .lit _ => 1
  | .nil => 1
  | .ptr d => uptoBulk d + 1
  | .slice elems spare => uptoBulkAll elems + uptoBulkAll spare + 1
  | .agg parts => uptoBulkAll parts + 1
  | .iface _ d => uptoBulk d + 1
  | .map entries => uptoBulkEntries entries + 1
  | .held _ => 1
def uptoBulkAll {H : Type} : List (DataW H) → Nat
  | [] => 0
  | d :: r => uptoBulk d + uptoBulkAll r
def uptoBulkEntries {H : Type} : List (Lit × DataW H) → Nat
  | [] => 0
  | x :: r => uptoBulkEntry x + uptoBulkEntries r
def uptoBulkEntry {H : Type} : Lit × DataW H → Nat
  | (.string bytes, d) => bytes.length + uptoBulk d + 1
  | (_, d) => uptoBulk d + 1
 end
def uptoSmall : (H : Type) → List (DataW H) → Bool := fun _ ds => decide (uptoBulkAll ds ≤ 1048576)
def OpenSpec.upto (s : _root_.Go.ChangeSpec) : _root_.Go.OpenSpec := { _root_.Go.OpenSpec.ofChange s with cond := some uptoSmall }

/-- 'cottonpadlaw02.ClassClasses', WHERE WHAT IT READS IS OF BULK AT MOST 1048576: true; the input reads as it did. -/
def classClassesUptoRow : OpenClaim := { program := "ytopgldaekcmekaagreatdoor", sum := "b048cf011649c3a6de4b7cb1e237351ddb71265f215dc23c0b0478bb53d1c091", func := "cottonpad/cottonpadlaw02.ClassClasses", spec := "classClasses", unfollowed := true, recurses := true, named := ["cottonpad/class.shows"], plainKeys := false, apart := false, laid := [("cottonpad/class.shows", laid_cottonpad_class_shows)], narrowed := true }
def ClassClassesUptoSaid : Prop := classClassesUptoRow.holds Tryz.pinned (OpenSpec.upto classClassesSpec)

/-- 'cottonpadlaw02.ClassEnds', WHERE WHAT IT READS IS OF BULK AT MOST 1048576: true; the input reads as it did. -/
def classEndsUptoRow : OpenClaim := { program := "ytopgldaekcmekaagreatdoor", sum := "b048cf011649c3a6de4b7cb1e237351ddb71265f215dc23c0b0478bb53d1c091", func := "cottonpad/cottonpadlaw02.ClassEnds", spec := "classEnds", unfollowed := true, recurses := true, named := ["cottonpad/class.shows"], plainKeys := false, apart := false, laid := [("cottonpad/class.shows", laid_cottonpad_class_shows)], narrowed := true }
def ClassEndsUptoSaid : Prop := classEndsUptoRow.holds Tryz.pinned (OpenSpec.upto classEndsSpec)

/-- 'cottonpadlaw02.ClassLooser', WHERE WHAT IT READS IS OF BULK AT MOST 1048576: true; the input reads as it did. -/
def classLooserUptoRow : OpenClaim := { program := "ytopgldaekcmekaagreatdoor", sum := "b048cf011649c3a6de4b7cb1e237351ddb71265f215dc23c0b0478bb53d1c091", func := "cottonpad/cottonpadlaw02.ClassLooser", spec := "classLooser", unfollowed := true, recurses := true, named := ["cottonpad/class.shows"], plainKeys := false, apart := false, laid := [("cottonpad/class.shows", laid_cottonpad_class_shows)], narrowed := true }
def ClassLooserUptoSaid : Prop := classLooserUptoRow.holds Tryz.pinned (OpenSpec.upto classLooserSpec)

/-- 'cottonpadlaw02.ClassMore', WHERE WHAT IT READS IS OF BULK AT MOST 1048576: true; the input reads as it did. -/
def classMoreUptoRow : OpenClaim := { program := "ytopgldaekcmekaagreatdoor", sum := "b048cf011649c3a6de4b7cb1e237351ddb71265f215dc23c0b0478bb53d1c091", func := "cottonpad/cottonpadlaw02.ClassMore", spec := "classMore", unfollowed := true, recurses := true, named := ["cottonpad/class.shows"], plainKeys := false, apart := false, laid := [("cottonpad/class.shows", laid_cottonpad_class_shows)], narrowed := true }
def ClassMoreUptoSaid : Prop := classMoreUptoRow.holds Tryz.pinned (OpenSpec.upto classMoreSpec)

/-- 'cottonpadlaw02.ClassWider', WHERE WHAT IT READS IS OF BULK AT MOST 1048576: true; the input reads as it did. -/
def classWiderUptoRow : OpenClaim := { program := "ytopgldaekcmekaagreatdoor", sum := "b048cf011649c3a6de4b7cb1e237351ddb71265f215dc23c0b0478bb53d1c091", func := "cottonpad/cottonpadlaw02.ClassWider", spec := "classWider", unfollowed := true, recurses := true, named := ["cottonpad/class.shows"], plainKeys := false, apart := false, laid := [("cottonpad/class.shows", laid_cottonpad_class_shows)], narrowed := true }
def ClassWiderUptoSaid : Prop := classWiderUptoRow.holds Tryz.pinned (OpenSpec.upto classWiderSpec)

/-- 'cottonpadlaw02.ClassLetters', WHERE WHAT IT READS IS OF BULK AT MOST 1048576: true; the input reads as it did. -/
def classLettersUptoRow : OpenClaim := { program := "ytopgldaekcmekaagreatdoor", sum := "b048cf011649c3a6de4b7cb1e237351ddb71265f215dc23c0b0478bb53d1c091", func := "cottonpad/cottonpadlaw02.ClassLetters", spec := "classLetters", unfollowed := true, recurses := true, named := ["cottonpad/class.shows"], plainKeys := false, apart := false, laid := [("cottonpad/class.shows", laid_cottonpad_class_shows)], narrowed := true }
def ClassLettersUptoSaid : Prop := classLettersUptoRow.holds Tryz.pinned (OpenSpec.upto classLettersSpec)

/-- 'cottonpadlaw02.ClassStops', WHERE WHAT IT READS IS OF BULK AT MOST 1048576: true; the input reads as it did. -/
def classStopsUptoRow : OpenClaim := { program := "ytopgldaekcmekaagreatdoor", sum := "b048cf011649c3a6de4b7cb1e237351ddb71265f215dc23c0b0478bb53d1c091", func := "cottonpad/cottonpadlaw02.ClassStops", spec := "classStops", unfollowed := true, recurses := true, named := ["cottonpad/class.shows"], plainKeys := false, apart := false, laid := [("cottonpad/class.shows", laid_cottonpad_class_shows)], narrowed := true }
def ClassStopsUptoSaid : Prop := classStopsUptoRow.holds Tryz.pinned (OpenSpec.upto classStopsSpec)

/-- 'cottonpadlaw02.ClassTrue', WHERE WHAT IT READS IS OF BULK AT MOST 1048576: true; the input reads as it did. -/
def classTrueUptoRow : OpenClaim := { program := "ytopgldaekcmekaagreatdoor", sum := "b048cf011649c3a6de4b7cb1e237351ddb71265f215dc23c0b0478bb53d1c091", func := "cottonpad/cottonpadlaw02.ClassTrue", spec := "classTrue", unfollowed := true, recurses := true, named := ["cottonpad/class.shows"], plainKeys := false, apart := false, laid := [("cottonpad/class.shows", laid_cottonpad_class_shows)], narrowed := true }
def ClassTrueUptoSaid : Prop := classTrueUptoRow.holds Tryz.pinned (OpenSpec.upto classTrueSpec)

/-- 'cottonpadlaw02.ClassFurnace', WHERE WHAT IT READS IS OF BULK AT MOST 1048576: true; the input reads as it did. -/
def classFurnaceUptoRow : OpenClaim := { program := "ytopgldaekcmekaagreatdoor", sum := "b048cf011649c3a6de4b7cb1e237351ddb71265f215dc23c0b0478bb53d1c091", func := "cottonpad/cottonpadlaw02.ClassFurnace", spec := "classFurnace", unfollowed := true, recurses := true, named := ["cottonpad/class.shows"], plainKeys := false, apart := false, laid := [("cottonpad/class.shows", laid_cottonpad_class_shows)], narrowed := true }
def ClassFurnaceUptoSaid : Prop := classFurnaceUptoRow.holds Tryz.pinned (OpenSpec.upto classFurnaceSpec)

end Rows
end Go.Proofs.YtopgldaekcmekaaGreatDoor
