/-
  No cell of these rows narrows 'for every input' (looked for: loops, veiled, ifaces, maps, wideKeys, modest, calm, conditions, laid).
  DERIVED. THE GIVEN ROWS OF THIS SEAT. 12 by the template 'for every input the law returns true; each argument reads behind the call as it read before'; 0 by the template 'total and deterministic' (their statements: YtfpbidbjgigljaaTotals.lean).
  GIVEN WITH THE SEED: the statements are not yours to turn. If you find one false, say at which input.
  Laid BY PROGRAM, IN A SANDBOX (cutbox-rows.mjs): the forced cells as the released guide's own fill.sh prints them over the translation 222dd31a8ca62650… (all of the seat's roots in one cut). By AI agents, Wed Nov 11 2026. No macro, syntax, notation, axiom, sorry.
-/
import Derived.Test.YtfpbidbjgigljaaChecked
import GoSem.Claim
import GoSem.ClaimJoined
import GoSem.ClaimMapViews
import Derived.JoinedTies
import Derived.KernelRfl
namespace Go.Proofs.Ytfpbidbjgigljaa
/- THE CELL 'sum', in the pinned program and in every row, IS THE sha256 OF THE DUMP (.gsa) THAT YtfpbidbjgigljaaProg.lean LOADS. Nothing in Lean hashes anything: it is a label: what it is worth is what the hold of that sum in a sandbox is worth. -/
noncomputable def Try.pinned : Pinned := { name := "ytfpbidbjgigljaa", sum := "222dd31a8ca62650810a3d35efe546f58ab80f377b667759b2f2b10edfab656f", checked := Try.checked }
namespace Rows
def none {H : Type} : Left H := { results := [], args := [] }

/-- 'cottonpadlaw05.SprayFlows': WHATEVER THE INPUT: true; the input reads as it did. -/
def sprayFlowsSpec : ChangeSpec := { name := "sprayFlows", fn := fun _ => fun
  | [d1, d2, d3] => { results := [.lit (.bool true)], args := [d1, d2, d3] }
  | _ => none }
def sprayFlowsRow : OpenClaim := { program := "ytfpbidbjgigljaa", sum := "222dd31a8ca62650810a3d35efe546f58ab80f377b667759b2f2b10edfab656f", func := "cottonpad/cottonpadlaw05.SprayFlows", spec := "sprayFlows", unfollowed := true, recurses := true, apart := false }
def SprayFlowsSaid : Prop := sprayFlowsRow.holds Try.pinned (OpenSpec.ofChange sprayFlowsSpec)

/-- ITS FALSE NEIGHBOUR: 'it returns false'. Refute it at one input. -/
def sprayFlowsWrong : ChangeSpec := { name := "sprayFlows", fn := fun _ => fun
  | [d1, d2, d3] => { results := [.lit (.bool false)], args := [d1, d2, d3] }
  | _ => none }
def SprayFlowsWrongFalsely : Prop := sprayFlowsRow.holds Try.pinned (OpenSpec.ofChange sprayFlowsWrong)

/-- 'cottonpadlaw05.SprayGets': WHATEVER THE INPUT: true; the input reads as it did. -/
def sprayGetsSpec : ChangeSpec := { name := "sprayGets", fn := fun _ => fun
  | [d1, d2] => { results := [.lit (.bool true)], args := [d1, d2] }
  | _ => none }
def sprayGetsRow : OpenClaim := { program := "ytfpbidbjgigljaa", sum := "222dd31a8ca62650810a3d35efe546f58ab80f377b667759b2f2b10edfab656f", func := "cottonpad/cottonpadlaw05.SprayGets", spec := "sprayGets", unfollowed := true, recurses := true, apart := false }
def SprayGetsSaid : Prop := sprayGetsRow.holds Try.pinned (OpenSpec.ofChange sprayGetsSpec)

/-- ITS FALSE NEIGHBOUR: 'it returns false'. Refute it at one input. -/
def sprayGetsWrong : ChangeSpec := { name := "sprayGets", fn := fun _ => fun
  | [d1, d2] => { results := [.lit (.bool false)], args := [d1, d2] }
  | _ => none }
def SprayGetsWrongFalsely : Prop := sprayGetsRow.holds Try.pinned (OpenSpec.ofChange sprayGetsWrong)

/-- 'cottonpadlaw05.SprayFires': WHATEVER THE INPUT: true; the input reads as it did. -/
def sprayFiresSpec : ChangeSpec := { name := "sprayFires", fn := fun _ => fun
  | [d1, d2, d3] => { results := [.lit (.bool true)], args := [d1, d2, d3] }
  | _ => none }
def sprayFiresRow : OpenClaim := { program := "ytfpbidbjgigljaa", sum := "222dd31a8ca62650810a3d35efe546f58ab80f377b667759b2f2b10edfab656f", func := "cottonpad/cottonpadlaw05.SprayFires", spec := "sprayFires", unfollowed := true, recurses := true, apart := false }
def SprayFiresSaid : Prop := sprayFiresRow.holds Try.pinned (OpenSpec.ofChange sprayFiresSpec)

/-- ITS FALSE NEIGHBOUR: 'it returns false'. Refute it at one input. -/
def sprayFiresWrong : ChangeSpec := { name := "sprayFires", fn := fun _ => fun
  | [d1, d2, d3] => { results := [.lit (.bool false)], args := [d1, d2, d3] }
  | _ => none }
def SprayFiresWrongFalsely : Prop := sprayFiresRow.holds Try.pinned (OpenSpec.ofChange sprayFiresWrong)

/-- 'cottonpadlaw05.SprayTrue': WHATEVER THE INPUT: true; the input reads as it did. -/
def sprayTrueSpec : ChangeSpec := { name := "sprayTrue", fn := fun _ => fun
  | [d1, d2, d3, d4] => { results := [.lit (.bool true)], args := [d1, d2, d3, d4] }
  | _ => none }
def sprayTrueRow : OpenClaim := { program := "ytfpbidbjgigljaa", sum := "222dd31a8ca62650810a3d35efe546f58ab80f377b667759b2f2b10edfab656f", func := "cottonpad/cottonpadlaw05.SprayTrue", spec := "sprayTrue", unfollowed := true, recurses := true, apart := false }
def SprayTrueSaid : Prop := sprayTrueRow.holds Try.pinned (OpenSpec.ofChange sprayTrueSpec)

/-- ITS FALSE NEIGHBOUR: 'it returns false'. Refute it at one input. -/
def sprayTrueWrong : ChangeSpec := { name := "sprayTrue", fn := fun _ => fun
  | [d1, d2, d3, d4] => { results := [.lit (.bool false)], args := [d1, d2, d3, d4] }
  | _ => none }
def SprayTrueWrongFalsely : Prop := sprayTrueRow.holds Try.pinned (OpenSpec.ofChange sprayTrueWrong)

/-- 'cottonpadlaw05.SprayEnds': WHATEVER THE INPUT: true; the input reads as it did. -/
def sprayEndsSpec : ChangeSpec := { name := "sprayEnds", fn := fun _ => fun
  | [d1, d2, d3] => { results := [.lit (.bool true)], args := [d1, d2, d3] }
  | _ => none }
def sprayEndsRow : OpenClaim := { program := "ytfpbidbjgigljaa", sum := "222dd31a8ca62650810a3d35efe546f58ab80f377b667759b2f2b10edfab656f", func := "cottonpad/cottonpadlaw05.SprayEnds", spec := "sprayEnds", unfollowed := true, recurses := true, apart := false }
def SprayEndsSaid : Prop := sprayEndsRow.holds Try.pinned (OpenSpec.ofChange sprayEndsSpec)

/-- ITS FALSE NEIGHBOUR: 'it returns false'. Refute it at one input. -/
def sprayEndsWrong : ChangeSpec := { name := "sprayEnds", fn := fun _ => fun
  | [d1, d2, d3] => { results := [.lit (.bool false)], args := [d1, d2, d3] }
  | _ => none }
def SprayEndsWrongFalsely : Prop := sprayEndsRow.holds Try.pinned (OpenSpec.ofChange sprayEndsWrong)

/-- 'cottonpadlaw05.SprayNamed': WHATEVER THE INPUT: true; the input reads as it did. -/
def sprayNamedSpec : ChangeSpec := { name := "sprayNamed", fn := fun _ => fun
  | [d1, d2, d3] => { results := [.lit (.bool true)], args := [d1, d2, d3] }
  | _ => none }
def sprayNamedRow : OpenClaim := { program := "ytfpbidbjgigljaa", sum := "222dd31a8ca62650810a3d35efe546f58ab80f377b667759b2f2b10edfab656f", func := "cottonpad/cottonpadlaw05.SprayNamed", spec := "sprayNamed", unfollowed := true, recurses := true, apart := false }
def SprayNamedSaid : Prop := sprayNamedRow.holds Try.pinned (OpenSpec.ofChange sprayNamedSpec)

/-- ITS FALSE NEIGHBOUR: 'it returns false'. Refute it at one input. -/
def sprayNamedWrong : ChangeSpec := { name := "sprayNamed", fn := fun _ => fun
  | [d1, d2, d3] => { results := [.lit (.bool false)], args := [d1, d2, d3] }
  | _ => none }
def SprayNamedWrongFalsely : Prop := sprayNamedRow.holds Try.pinned (OpenSpec.ofChange sprayNamedWrong)

/-- 'cottonpadlaw05.SprayFewer': WHATEVER THE INPUT: true; the input reads as it did. -/
def sprayFewerSpec : ChangeSpec := { name := "sprayFewer", fn := fun _ => fun
  | [d1, d2, d3, d4] => { results := [.lit (.bool true)], args := [d1, d2, d3, d4] }
  | _ => none }
def sprayFewerRow : OpenClaim := { program := "ytfpbidbjgigljaa", sum := "222dd31a8ca62650810a3d35efe546f58ab80f377b667759b2f2b10edfab656f", func := "cottonpad/cottonpadlaw05.SprayFewer", spec := "sprayFewer", unfollowed := true, recurses := true, apart := false }
def SprayFewerSaid : Prop := sprayFewerRow.holds Try.pinned (OpenSpec.ofChange sprayFewerSpec)

/-- ITS FALSE NEIGHBOUR: 'it returns false'. Refute it at one input. -/
def sprayFewerWrong : ChangeSpec := { name := "sprayFewer", fn := fun _ => fun
  | [d1, d2, d3, d4] => { results := [.lit (.bool false)], args := [d1, d2, d3, d4] }
  | _ => none }
def SprayFewerWrongFalsely : Prop := sprayFewerRow.holds Try.pinned (OpenSpec.ofChange sprayFewerWrong)

/-- 'cottonpadlaw05.SpraySurer': WHATEVER THE INPUT: true; the input reads as it did. -/
def spraySurerSpec : ChangeSpec := { name := "spraySurer", fn := fun _ => fun
  | [d1, d2, d3] => { results := [.lit (.bool true)], args := [d1, d2, d3] }
  | _ => none }
def spraySurerRow : OpenClaim := { program := "ytfpbidbjgigljaa", sum := "222dd31a8ca62650810a3d35efe546f58ab80f377b667759b2f2b10edfab656f", func := "cottonpad/cottonpadlaw05.SpraySurer", spec := "spraySurer", unfollowed := true, recurses := true, apart := false }
def SpraySurerSaid : Prop := spraySurerRow.holds Try.pinned (OpenSpec.ofChange spraySurerSpec)

/-- ITS FALSE NEIGHBOUR: 'it returns false'. Refute it at one input. -/
def spraySurerWrong : ChangeSpec := { name := "spraySurer", fn := fun _ => fun
  | [d1, d2, d3] => { results := [.lit (.bool false)], args := [d1, d2, d3] }
  | _ => none }
def SpraySurerWrongFalsely : Prop := spraySurerRow.holds Try.pinned (OpenSpec.ofChange spraySurerWrong)

/-- 'cottonpadlaw05.SprayWater': WHATEVER THE INPUT: true; the input reads as it did. -/
def sprayWaterSpec : ChangeSpec := { name := "sprayWater", fn := fun _ => fun
  | [d1, d2] => { results := [.lit (.bool true)], args := [d1, d2] }
  | _ => none }
def sprayWaterRow : OpenClaim := { program := "ytfpbidbjgigljaa", sum := "222dd31a8ca62650810a3d35efe546f58ab80f377b667759b2f2b10edfab656f", func := "cottonpad/cottonpadlaw05.SprayWater", spec := "sprayWater", unfollowed := true, recurses := true, apart := false }
def SprayWaterSaid : Prop := sprayWaterRow.holds Try.pinned (OpenSpec.ofChange sprayWaterSpec)

/-- ITS FALSE NEIGHBOUR: 'it returns false'. Refute it at one input. -/
def sprayWaterWrong : ChangeSpec := { name := "sprayWater", fn := fun _ => fun
  | [d1, d2] => { results := [.lit (.bool false)], args := [d1, d2] }
  | _ => none }
def SprayWaterWrongFalsely : Prop := sprayWaterRow.holds Try.pinned (OpenSpec.ofChange sprayWaterWrong)

/-- 'cottonpadlaw05.SprayBulb': WHATEVER THE INPUT: true; the input reads as it did. -/
def sprayBulbSpec : ChangeSpec := { name := "sprayBulb", fn := fun _ => fun
  | [d1, d2, d3, d4, d5] => { results := [.lit (.bool true)], args := [d1, d2, d3, d4, d5] }
  | _ => none }
def sprayBulbRow : OpenClaim := { program := "ytfpbidbjgigljaa", sum := "222dd31a8ca62650810a3d35efe546f58ab80f377b667759b2f2b10edfab656f", func := "cottonpad/cottonpadlaw05.SprayBulb", spec := "sprayBulb", unfollowed := true, recurses := true, apart := false }
def SprayBulbSaid : Prop := sprayBulbRow.holds Try.pinned (OpenSpec.ofChange sprayBulbSpec)

/-- ITS FALSE NEIGHBOUR: 'it returns false'. Refute it at one input. -/
def sprayBulbWrong : ChangeSpec := { name := "sprayBulb", fn := fun _ => fun
  | [d1, d2, d3, d4, d5] => { results := [.lit (.bool false)], args := [d1, d2, d3, d4, d5] }
  | _ => none }
def SprayBulbWrongFalsely : Prop := sprayBulbRow.holds Try.pinned (OpenSpec.ofChange sprayBulbWrong)

/-- 'cottonpadlaw05.SprayMost': WHATEVER THE INPUT: true; the input reads as it did. -/
def sprayMostSpec : ChangeSpec := { name := "sprayMost", fn := fun _ => fun
  | [d1, d2] => { results := [.lit (.bool true)], args := [d1, d2] }
  | _ => none }
def sprayMostRow : OpenClaim := { program := "ytfpbidbjgigljaa", sum := "222dd31a8ca62650810a3d35efe546f58ab80f377b667759b2f2b10edfab656f", func := "cottonpad/cottonpadlaw05.SprayMost", spec := "sprayMost", unfollowed := true, recurses := true, apart := false }
def SprayMostSaid : Prop := sprayMostRow.holds Try.pinned (OpenSpec.ofChange sprayMostSpec)

/-- ITS FALSE NEIGHBOUR: 'it returns false'. Refute it at one input. -/
def sprayMostWrong : ChangeSpec := { name := "sprayMost", fn := fun _ => fun
  | [d1, d2] => { results := [.lit (.bool false)], args := [d1, d2] }
  | _ => none }
def SprayMostWrongFalsely : Prop := sprayMostRow.holds Try.pinned (OpenSpec.ofChange sprayMostWrong)

/-- 'cottonpadlaw05.SprayFire': WHATEVER THE INPUT: true; the input reads as it did. -/
def sprayFireSpec : ChangeSpec := { name := "sprayFire", fn := fun _ => fun
  | [d1, d2, d3] => { results := [.lit (.bool true)], args := [d1, d2, d3] }
  | _ => none }
def sprayFireRow : OpenClaim := { program := "ytfpbidbjgigljaa", sum := "222dd31a8ca62650810a3d35efe546f58ab80f377b667759b2f2b10edfab656f", func := "cottonpad/cottonpadlaw05.SprayFire", spec := "sprayFire", unfollowed := true, recurses := true, apart := false }
def SprayFireSaid : Prop := sprayFireRow.holds Try.pinned (OpenSpec.ofChange sprayFireSpec)

/-- ITS FALSE NEIGHBOUR: 'it returns false'. Refute it at one input. -/
def sprayFireWrong : ChangeSpec := { name := "sprayFire", fn := fun _ => fun
  | [d1, d2, d3] => { results := [.lit (.bool false)], args := [d1, d2, d3] }
  | _ => none }
def SprayFireWrongFalsely : Prop := sprayFireRow.holds Try.pinned (OpenSpec.ofChange sprayFireWrong)

/- THE SECOND FORM. 'bulk': how many values and letters a reading holds, each counted each time it is reached (what is shared counts as often as it is met; a slice's spare places count too). A statement '..UptoSaid' is the law's where the arguments, and the package variables that the reading takes, are together of bulk at most 1048576: NARROWER than '..Said'. Prove '..Said' where nothing that the law and all that it calls make is longer than what came in: it says more and counts as full. Else prove '..UptoSaid'. A law counts once. -/
mutual
def uptoBulk {H : Type} : DataW H → Nat
  | .lit (.string bytes) => bytes.length + 1
  | .lit _ => 1
  | .nil => 1
  | .ptr d => uptoBulk d + 1
  | .slice elems spare => uptoBulkAll elems + uptoBulkAll spare + 1
  | .agg parts => uptoBulkAll parts + 1
  | .iface _ d => uptoBulk d + 1
  | .map entries => uptoBulkEntries entries + 1
  | .held _ => 1
def uptoBulkAll {H : Type} : List (DataW H) → Nat
  | [] => 0
  | d :: r => uptoBulk d + uptoBulkAll r
def uptoBulkEntries {H : Type} : List (Lit × DataW H) → Nat
  | [] => 0
  | x :: r => uptoBulkEntry x + uptoBulkEntries r
def uptoBulkEntry {H : Type} : Lit × DataW H → Nat
  | (.string bytes, d) => bytes.length + uptoBulk d + 1
  | (_, d) => uptoBulk d + 1
 end
def uptoSmall : (H : Type) → List (DataW H) → Bool := fun _ ds => decide (uptoBulkAll ds ≤ 1048576)
def OpenSpec.upto (s : _root_.Go.ChangeSpec) : _root_.Go.OpenSpec := { _root_.Go.OpenSpec.ofChange s with cond := some uptoSmall }

/-- 'cottonpadlaw05.SprayFlows', WHERE WHAT IT READS IS OF BULK AT MOST 1048576: true; the input reads as it did. -/
def sprayFlowsUptoRow : OpenClaim := { program := "ytfpbidbjgigljaa", sum := "222dd31a8ca62650810a3d35efe546f58ab80f377b667759b2f2b10edfab656f", func := "cottonpad/cottonpadlaw05.SprayFlows", spec := "sprayFlows", unfollowed := true, recurses := true, apart := false, narrowed := true }
def SprayFlowsUptoSaid : Prop := sprayFlowsUptoRow.holds Try.pinned (OpenSpec.upto sprayFlowsSpec)

/-- 'cottonpadlaw05.SprayGets', WHERE WHAT IT READS IS OF BULK AT MOST 1048576: true; the input reads as it did. -/
def sprayGetsUptoRow : OpenClaim := { program := "ytfpbidbjgigljaa", sum := "222dd31a8ca62650810a3d35efe546f58ab80f377b667759b2f2b10edfab656f", func := "cottonpad/cottonpadlaw05.SprayGets", spec := "sprayGets", unfollowed := true, recurses := true, apart := false, narrowed := true }
def SprayGetsUptoSaid : Prop := sprayGetsUptoRow.holds Try.pinned (OpenSpec.upto sprayGetsSpec)

/-- 'cottonpadlaw05.SprayFires', WHERE WHAT IT READS IS OF BULK AT MOST 1048576: true; the input reads as it did. -/
def sprayFiresUptoRow : OpenClaim := { program := "ytfpbidbjgigljaa", sum := "222dd31a8ca62650810a3d35efe546f58ab80f377b667759b2f2b10edfab656f", func := "cottonpad/cottonpadlaw05.SprayFires", spec := "sprayFires", unfollowed := true, recurses := true, apart := false, narrowed := true }
def SprayFiresUptoSaid : Prop := sprayFiresUptoRow.holds Try.pinned (OpenSpec.upto sprayFiresSpec)

/-- 'cottonpadlaw05.SprayTrue', WHERE WHAT IT READS IS OF BULK AT MOST 1048576: true; the input reads as it did. -/
def sprayTrueUptoRow : OpenClaim := { program := "ytfpbidbjgigljaa", sum := "222dd31a8ca62650810a3d35efe546f58ab80f377b667759b2f2b10edfab656f", func := "cottonpad/cottonpadlaw05.SprayTrue", spec := "sprayTrue", unfollowed := true, recurses := true, apart := false, narrowed := true }
def SprayTrueUptoSaid : Prop := sprayTrueUptoRow.holds Try.pinned (OpenSpec.upto sprayTrueSpec)

/-- 'cottonpadlaw05.SprayEnds', WHERE WHAT IT READS IS OF BULK AT MOST 1048576: true; the input reads as it did. -/
def sprayEndsUptoRow : OpenClaim := { program := "ytfpbidbjgigljaa", sum := "222dd31a8ca62650810a3d35efe546f58ab80f377b667759b2f2b10edfab656f", func := "cottonpad/cottonpadlaw05.SprayEnds", spec := "sprayEnds", unfollowed := true, recurses := true, apart := false, narrowed := true }
def SprayEndsUptoSaid : Prop := sprayEndsUptoRow.holds Try.pinned (OpenSpec.upto sprayEndsSpec)

/-- 'cottonpadlaw05.SprayNamed', WHERE WHAT IT READS IS OF BULK AT MOST 1048576: true; the input reads as it did. -/
def sprayNamedUptoRow : OpenClaim := { program := "ytfpbidbjgigljaa", sum := "222dd31a8ca62650810a3d35efe546f58ab80f377b667759b2f2b10edfab656f", func := "cottonpad/cottonpadlaw05.SprayNamed", spec := "sprayNamed", unfollowed := true, recurses := true, apart := false, narrowed := true }
def SprayNamedUptoSaid : Prop := sprayNamedUptoRow.holds Try.pinned (OpenSpec.upto sprayNamedSpec)

/-- 'cottonpadlaw05.SprayFewer', WHERE WHAT IT READS IS OF BULK AT MOST 1048576: true; the input reads as it did. -/
def sprayFewerUptoRow : OpenClaim := { program := "ytfpbidbjgigljaa", sum := "222dd31a8ca62650810a3d35efe546f58ab80f377b667759b2f2b10edfab656f", func := "cottonpad/cottonpadlaw05.SprayFewer", spec := "sprayFewer", unfollowed := true, recurses := true, apart := false, narrowed := true }
def SprayFewerUptoSaid : Prop := sprayFewerUptoRow.holds Try.pinned (OpenSpec.upto sprayFewerSpec)

/-- 'cottonpadlaw05.SpraySurer', WHERE WHAT IT READS IS OF BULK AT MOST 1048576: true; the input reads as it did. -/
def spraySurerUptoRow : OpenClaim := { program := "ytfpbidbjgigljaa", sum := "222dd31a8ca62650810a3d35efe546f58ab80f377b667759b2f2b10edfab656f", func := "cottonpad/cottonpadlaw05.SpraySurer", spec := "spraySurer", unfollowed := true, recurses := true, apart := false, narrowed := true }
def SpraySurerUptoSaid : Prop := spraySurerUptoRow.holds Try.pinned (OpenSpec.upto spraySurerSpec)

/-- 'cottonpadlaw05.SprayWater', WHERE WHAT IT READS IS OF BULK AT MOST 1048576: true; the input reads as it did. -/
def sprayWaterUptoRow : OpenClaim := { program := "ytfpbidbjgigljaa", sum := "222dd31a8ca62650810a3d35efe546f58ab80f377b667759b2f2b10edfab656f", func := "cottonpad/cottonpadlaw05.SprayWater", spec := "sprayWater", unfollowed := true, recurses := true, apart := false, narrowed := true }
def SprayWaterUptoSaid : Prop := sprayWaterUptoRow.holds Try.pinned (OpenSpec.upto sprayWaterSpec)

/-- 'cottonpadlaw05.SprayBulb', WHERE WHAT IT READS IS OF BULK AT MOST 1048576: true; the input reads as it did. -/
def sprayBulbUptoRow : OpenClaim := { program := "ytfpbidbjgigljaa", sum := "222dd31a8ca62650810a3d35efe546f58ab80f377b667759b2f2b10edfab656f", func := "cottonpad/cottonpadlaw05.SprayBulb", spec := "sprayBulb", unfollowed := true, recurses := true, apart := false, narrowed := true }
def SprayBulbUptoSaid : Prop := sprayBulbUptoRow.holds Try.pinned (OpenSpec.upto sprayBulbSpec)

/-- 'cottonpadlaw05.SprayMost', WHERE WHAT IT READS IS OF BULK AT MOST 1048576: true; the input reads as it did. -/
def sprayMostUptoRow : OpenClaim := { program := "ytfpbidbjgigljaa", sum := "222dd31a8ca62650810a3d35efe546f58ab80f377b667759b2f2b10edfab656f", func := "cottonpad/cottonpadlaw05.SprayMost", spec := "sprayMost", unfollowed := true, recurses := true, apart := false, narrowed := true }
def SprayMostUptoSaid : Prop := sprayMostUptoRow.holds Try.pinned (OpenSpec.upto sprayMostSpec)

/-- 'cottonpadlaw05.SprayFire', WHERE WHAT IT READS IS OF BULK AT MOST 1048576: true; the input reads as it did. -/
def sprayFireUptoRow : OpenClaim := { program := "ytfpbidbjgigljaa", sum := "222dd31a8ca62650810a3d35efe546f58ab80f377b667759b2f2b10edfab656f", func := "cottonpad/cottonpadlaw05.SprayFire", spec := "sprayFire", unfollowed := true, recurses := true, apart := false, narrowed := true }
def SprayFireUptoSaid : Prop := sprayFireUptoRow.holds Try.pinned (OpenSpec.upto sprayFireSpec)

end Rows
end Go.Proofs.Ytfpbidbjgigljaa
