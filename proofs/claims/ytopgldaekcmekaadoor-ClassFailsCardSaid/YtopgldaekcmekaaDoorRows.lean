/-
  NARROWER THAN 'FOR EVERY INPUT', by the rows' own cells (each row's printed sentence says how): ClassFails: laid · ClassExamples: laid.
  DERIVED. THE GIVEN ROWS OF THIS SEAT. 2 by the template 'for every input the law returns true; each argument reads behind the call as it read before'; 0 by the template 'total and deterministic' (their statements: YtopgldaekcmekaaDoorTotals.lean).
  GIVEN WITH THE SEED: the statements are not yours to turn. If you find one false, say at which input.
  Laid BY PROGRAM, IN A SANDBOX (cutbox-rows.mjs): the forced cells as the released guide's own fill.sh prints them over the translation 566d00ff293f51df… (all of the seat's roots in one cut). By AI agents, Wed Nov 11 2026. No macro, syntax, notation, axiom, sorry.
-/
import Derived.Test.YtopgldaekcmekaaDoorChecked
import GoSem.Claim
import GoSem.ClaimJoined
import GoSem.ClaimMapViews
import Derived.JoinedTies
import Derived.KernelRfl
namespace Go.Proofs.YtopgldaekcmekaaDoor
/- THE CELL 'sum', in the pinned program and in every row, IS THE sha256 OF THE DUMP (.gsa) THAT YtopgldaekcmekaaDoorProg.lean LOADS. Nothing in Lean hashes anything: it is a label: what it is worth is what the hold of that sum in a sandbox is worth. -/
noncomputable def Tryd.pinned : Pinned := { name := "ytopgldaekcmekaadoor", sum := "566d00ff293f51dfcba518aeb5f260524a17aa57e84c0b18cb7ab9fbee79470d", checked := Tryd.checked }
namespace Rows
def none {H : Type} : Left H := { results := [], args := [] }

/- WHAT THE LISTED PACKAGE-LEVEL VARIABLES READ AS WHEN THE CALL BEGINS. Each datum BY PROGRAM (the guide's laid-datum.mjs) off the statement by which the dump's own 'gosem.cut.vars' lays the variable. In a bare row this is a premise. The card (YtopgldaekcmekaaDoorCards.lean) ties it to the program's text. -/
def laid_cottonpad_class_shows {H : Type} : DataW H := .iface "func table" (.agg [.agg [.iface "func" (.lit (.string [99, 111, 116, 116, 111, 110, 112, 97, 100, 47, 99, 108, 97, 115, 115, 46, 115, 104, 111, 119, 115, 36, 49]))], .agg [.iface "func" (.lit (.string [99, 111, 116, 116, 111, 110, 112, 97, 100, 47, 99, 108, 97, 115, 115, 46, 115, 104, 111, 119, 115, 36, 50]))]])

/-- 'cottonpadlaw02.ClassFails': WHATEVER THE INPUT: true; the input reads as it did. -/
def classFailsSpec : ChangeSpec := { name := "classFails", fn := fun _ => fun
  | [d1, d2, d3] => { results := [.lit (.bool true)], args := [d1, d2, d3] }
  | _ => none }
def classFailsRow : OpenClaim := { program := "ytopgldaekcmekaadoor", sum := "566d00ff293f51dfcba518aeb5f260524a17aa57e84c0b18cb7ab9fbee79470d", func := "cottonpad/cottonpadlaw02.ClassFails", spec := "classFails", unfollowed := true, recurses := true, named := ["cottonpad/class.shows"], plainKeys := false, apart := false, laid := [("cottonpad/class.shows", laid_cottonpad_class_shows)] }
def ClassFailsSaid : Prop := classFailsRow.holds Tryd.pinned (OpenSpec.ofChange classFailsSpec)

/-- ITS FALSE NEIGHBOUR: 'it returns false'. Refute it at one input. -/
def classFailsWrong : ChangeSpec := { name := "classFails", fn := fun _ => fun
  | [d1, d2, d3] => { results := [.lit (.bool false)], args := [d1, d2, d3] }
  | _ => none }
def ClassFailsWrongFalsely : Prop := classFailsRow.holds Tryd.pinned (OpenSpec.ofChange classFailsWrong)

/-- 'cottonpadlaw02.ClassExamples': WHATEVER THE INPUT: true; the input reads as it did. -/
def classExamplesSpec : ChangeSpec := { name := "classExamples", fn := fun _ => fun
  | [] => { results := [.lit (.bool true)], args := [] }
  | _ => none }
def classExamplesRow : OpenClaim := { program := "ytopgldaekcmekaadoor", sum := "566d00ff293f51dfcba518aeb5f260524a17aa57e84c0b18cb7ab9fbee79470d", func := "cottonpad/cottonpadlaw02.ClassExamples", spec := "classExamples", unfollowed := true, recurses := true, named := ["cottonpad/class.shows"], plainKeys := false, apart := false, laid := [("cottonpad/class.shows", laid_cottonpad_class_shows)] }
def ClassExamplesSaid : Prop := classExamplesRow.holds Tryd.pinned (OpenSpec.ofChange classExamplesSpec)

/-- ITS FALSE NEIGHBOUR: 'it returns false'. Refute it at one input. -/
def classExamplesWrong : ChangeSpec := { name := "classExamples", fn := fun _ => fun
  | [] => { results := [.lit (.bool false)], args := [] }
  | _ => none }
def ClassExamplesWrongFalsely : Prop := classExamplesRow.holds Tryd.pinned (OpenSpec.ofChange classExamplesWrong)

/- THE SECOND FORM. 'bulk': how many values and letters a reading holds, each counted each time it is reached (what is shared counts as often as it is met; a slice's spare places count too). A statement '..UptoSaid' is the law's where the arguments, and the package variables that the reading takes, are together of bulk at most 1048576: NARROWER than '..Said'. Prove '..Said' where nothing that the law and all that it calls make is longer than what came in: it says more and counts as full. Else prove '..UptoSaid'. A law counts once. -/
mutual
def uptoBulk {H : Type} : DataW H → Nat
  | .lit (.string bytes) => bytes.length + 1
  | .lit _ => 1
  | .nil => 1
  | .ptr d => uptoBulk d + 1
  | .slice elems spare => uptoBulkAll elems + uptoBulkAll spare + 1
  | .agg parts => uptoBulkAll parts + 1
  | .iface _ d => uptoBulk d + 1
  | .map entries => uptoBulkEntries entries + 1
  | .held _ => 1
def uptoBulkAll {H : Type} : List (DataW H) → Nat
  | [] => 0
  | d :: r => uptoBulk d + uptoBulkAll r
def uptoBulkEntries {H : Type} : List (Lit × DataW H) → Nat
  | [] => 0
  | x :: r => uptoBulkEntry x + uptoBulkEntries r
def uptoBulkEntry {H : Type} : Lit × DataW H → Nat
  | (.string bytes, d) => bytes.length + uptoBulk d + 1
  | (_, d) => uptoBulk d + 1
 end
def uptoSmall : (H : Type) → List (DataW H) → Bool := fun _ ds => decide (uptoBulkAll ds ≤ 1048576)
def OpenSpec.upto (s : _root_.Go.ChangeSpec) : _root_.Go.OpenSpec := { _root_.Go.OpenSpec.ofChange s with cond := some uptoSmall }

/-- 'cottonpadlaw02.ClassFails', WHERE WHAT IT READS IS OF BULK AT MOST 1048576: true; the input reads as it did. -/
def classFailsUptoRow : OpenClaim := { program := "ytopgldaekcmekaadoor", sum := "566d00ff293f51dfcba518aeb5f260524a17aa57e84c0b18cb7ab9fbee79470d", func := "cottonpad/cottonpadlaw02.ClassFails", spec := "classFails", unfollowed := true, recurses := true, named := ["cottonpad/class.shows"], plainKeys := false, apart := false, laid := [("cottonpad/class.shows", laid_cottonpad_class_shows)], narrowed := true }
def ClassFailsUptoSaid : Prop := classFailsUptoRow.holds Tryd.pinned (OpenSpec.upto classFailsSpec)

/-- 'cottonpadlaw02.ClassExamples', WHERE WHAT IT READS IS OF BULK AT MOST 1048576: true; the input reads as it did. -/
def classExamplesUptoRow : OpenClaim := { program := "ytopgldaekcmekaadoor", sum := "566d00ff293f51dfcba518aeb5f260524a17aa57e84c0b18cb7ab9fbee79470d", func := "cottonpad/cottonpadlaw02.ClassExamples", spec := "classExamples", unfollowed := true, recurses := true, named := ["cottonpad/class.shows"], plainKeys := false, apart := false, laid := [("cottonpad/class.shows", laid_cottonpad_class_shows)], narrowed := true }
def ClassExamplesUptoSaid : Prop := classExamplesUptoRow.holds Tryd.pinned (OpenSpec.upto classExamplesSpec)

end Rows
end Go.Proofs.YtopgldaekcmekaaDoor
