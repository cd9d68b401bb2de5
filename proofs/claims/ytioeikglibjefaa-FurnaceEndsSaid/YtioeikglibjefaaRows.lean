/-
  No cell of these rows narrows 'for every input' (looked for: loops, veiled, ifaces, maps, wideKeys, modest, calm, conditions, laid).
  DERIVED. THE GIVEN ROWS OF THIS SEAT. 11 by the template 'for every input the law returns true; each argument reads behind the call as it read before'; 0 by the template 'total and deterministic' (their statements: YtioeikglibjefaaTotals.lean).
  GIVEN WITH THE SEED: the statements are not yours to turn. If you find one false, say at which input.
  Laid BY PROGRAM, IN A SANDBOX (cutbox-rows.mjs): the forced cells as the released guide's own fill.sh prints them over the translation e733f14a0db17577… (all of the seat's roots in one cut). By AI agents, Wed Nov 11 2026. No macro, syntax, notation, axiom, sorry.
-/
import Derived.Test.YtioeikglibjefaaChecked
import GoSem.Claim
import GoSem.ClaimJoined
import GoSem.ClaimMapViews
import Derived.JoinedTies
import Derived.KernelRfl
namespace Go.Proofs.Ytioeikglibjefaa
/- THE CELL 'sum', in the pinned program and in every row, IS THE sha256 OF THE DUMP (.gsa) THAT YtioeikglibjefaaProg.lean LOADS. Nothing in Lean hashes anything: it is a label: what it is worth is what the hold of that sum in a sandbox is worth. -/
noncomputable def Try.pinned : Pinned := { name := "ytioeikglibjefaa", sum := "e733f14a0db1757756ca589da147c8073c728f05c8e1831b92ac20e924d53097", checked := Try.checked }
namespace Rows
def none {H : Type} : Left H := { results := [], args := [] }

/-- 'cottonpadlaw01.FurnaceCurves': WHATEVER THE INPUT: true; the input reads as it did. -/
def furnaceCurvesSpec : ChangeSpec := { name := "furnaceCurves", fn := fun _ => fun
  | [d1, d2, d3, d4] => { results := [.lit (.bool true)], args := [d1, d2, d3, d4] }
  | _ => none }
def furnaceCurvesRow : OpenClaim := { program := "ytioeikglibjefaa", sum := "e733f14a0db1757756ca589da147c8073c728f05c8e1831b92ac20e924d53097", func := "cottonpad/cottonpadlaw01.FurnaceCurves", spec := "furnaceCurves", unfollowed := true, recurses := true, plainKeys := false, apart := false }
def FurnaceCurvesSaid : Prop := furnaceCurvesRow.holds Try.pinned (OpenSpec.ofChange furnaceCurvesSpec)

/-- ITS FALSE NEIGHBOUR: 'it returns false'. Refute it at one input. -/
def furnaceCurvesWrong : ChangeSpec := { name := "furnaceCurves", fn := fun _ => fun
  | [d1, d2, d3, d4] => { results := [.lit (.bool false)], args := [d1, d2, d3, d4] }
  | _ => none }
def FurnaceCurvesWrongFalsely : Prop := furnaceCurvesRow.holds Try.pinned (OpenSpec.ofChange furnaceCurvesWrong)

/-- 'cottonpadlaw01.FurnaceLefts': WHATEVER THE INPUT: true; the input reads as it did. -/
def furnaceLeftsSpec : ChangeSpec := { name := "furnaceLefts", fn := fun _ => fun
  | [d1, d2, d3] => { results := [.lit (.bool true)], args := [d1, d2, d3] }
  | _ => none }
def furnaceLeftsRow : OpenClaim := { program := "ytioeikglibjefaa", sum := "e733f14a0db1757756ca589da147c8073c728f05c8e1831b92ac20e924d53097", func := "cottonpad/cottonpadlaw01.FurnaceLefts", spec := "furnaceLefts", unfollowed := true, recurses := true, plainKeys := false, apart := false }
def FurnaceLeftsSaid : Prop := furnaceLeftsRow.holds Try.pinned (OpenSpec.ofChange furnaceLeftsSpec)

/-- ITS FALSE NEIGHBOUR: 'it returns false'. Refute it at one input. -/
def furnaceLeftsWrong : ChangeSpec := { name := "furnaceLefts", fn := fun _ => fun
  | [d1, d2, d3] => { results := [.lit (.bool false)], args := [d1, d2, d3] }
  | _ => none }
def FurnaceLeftsWrongFalsely : Prop := furnaceLeftsRow.holds Try.pinned (OpenSpec.ofChange furnaceLeftsWrong)

/-- 'cottonpadlaw01.FurnaceTrue': WHATEVER THE INPUT: true; the input reads as it did. -/
def furnaceTrueSpec : ChangeSpec := { name := "furnaceTrue", fn := fun _ => fun
  | [d1, d2, d3] => { results := [.lit (.bool true)], args := [d1, d2, d3] }
  | _ => none }
def furnaceTrueRow : OpenClaim := { program := "ytioeikglibjefaa", sum := "e733f14a0db1757756ca589da147c8073c728f05c8e1831b92ac20e924d53097", func := "cottonpad/cottonpadlaw01.FurnaceTrue", spec := "furnaceTrue", unfollowed := true, recurses := true, plainKeys := false, apart := false }
def FurnaceTrueSaid : Prop := furnaceTrueRow.holds Try.pinned (OpenSpec.ofChange furnaceTrueSpec)

/-- ITS FALSE NEIGHBOUR: 'it returns false'. Refute it at one input. -/
def furnaceTrueWrong : ChangeSpec := { name := "furnaceTrue", fn := fun _ => fun
  | [d1, d2, d3] => { results := [.lit (.bool false)], args := [d1, d2, d3] }
  | _ => none }
def FurnaceTrueWrongFalsely : Prop := furnaceTrueRow.holds Try.pinned (OpenSpec.ofChange furnaceTrueWrong)

/-- 'cottonpadlaw01.FurnaceEnds': WHATEVER THE INPUT: true; the input reads as it did. -/
def furnaceEndsSpec : ChangeSpec := { name := "furnaceEnds", fn := fun _ => fun
  | [d1, d2] => { results := [.lit (.bool true)], args := [d1, d2] }
  | _ => none }
def furnaceEndsRow : OpenClaim := { program := "ytioeikglibjefaa", sum := "e733f14a0db1757756ca589da147c8073c728f05c8e1831b92ac20e924d53097", func := "cottonpad/cottonpadlaw01.FurnaceEnds", spec := "furnaceEnds", unfollowed := true, recurses := true, plainKeys := false, apart := false }
def FurnaceEndsSaid : Prop := furnaceEndsRow.holds Try.pinned (OpenSpec.ofChange furnaceEndsSpec)

/-- ITS FALSE NEIGHBOUR: 'it returns false'. Refute it at one input. -/
def furnaceEndsWrong : ChangeSpec := { name := "furnaceEnds", fn := fun _ => fun
  | [d1, d2] => { results := [.lit (.bool false)], args := [d1, d2] }
  | _ => none }
def FurnaceEndsWrongFalsely : Prop := furnaceEndsRow.holds Try.pinned (OpenSpec.ofChange furnaceEndsWrong)

/-- 'cottonpadlaw01.FurnaceMeans': WHATEVER THE INPUT: true; the input reads as it did. -/
def furnaceMeansSpec : ChangeSpec := { name := "furnaceMeans", fn := fun _ => fun
  | [d1, d2] => { results := [.lit (.bool true)], args := [d1, d2] }
  | _ => none }
def furnaceMeansRow : OpenClaim := { program := "ytioeikglibjefaa", sum := "e733f14a0db1757756ca589da147c8073c728f05c8e1831b92ac20e924d53097", func := "cottonpad/cottonpadlaw01.FurnaceMeans", spec := "furnaceMeans", unfollowed := true, recurses := true, plainKeys := false, apart := false }
def FurnaceMeansSaid : Prop := furnaceMeansRow.holds Try.pinned (OpenSpec.ofChange furnaceMeansSpec)

/-- ITS FALSE NEIGHBOUR: 'it returns false'. Refute it at one input. -/
def furnaceMeansWrong : ChangeSpec := { name := "furnaceMeans", fn := fun _ => fun
  | [d1, d2] => { results := [.lit (.bool false)], args := [d1, d2] }
  | _ => none }
def FurnaceMeansWrongFalsely : Prop := furnaceMeansRow.holds Try.pinned (OpenSpec.ofChange furnaceMeansWrong)

/-- 'cottonpadlaw01.FurnaceKept': WHATEVER THE INPUT: true; the input reads as it did. -/
def furnaceKeptSpec : ChangeSpec := { name := "furnaceKept", fn := fun _ => fun
  | [d1, d2, d3, d4] => { results := [.lit (.bool true)], args := [d1, d2, d3, d4] }
  | _ => none }
def furnaceKeptRow : OpenClaim := { program := "ytioeikglibjefaa", sum := "e733f14a0db1757756ca589da147c8073c728f05c8e1831b92ac20e924d53097", func := "cottonpad/cottonpadlaw01.FurnaceKept", spec := "furnaceKept", unfollowed := true, recurses := true, plainKeys := false, apart := false }
def FurnaceKeptSaid : Prop := furnaceKeptRow.holds Try.pinned (OpenSpec.ofChange furnaceKeptSpec)

/-- ITS FALSE NEIGHBOUR: 'it returns false'. Refute it at one input. -/
def furnaceKeptWrong : ChangeSpec := { name := "furnaceKept", fn := fun _ => fun
  | [d1, d2, d3, d4] => { results := [.lit (.bool false)], args := [d1, d2, d3, d4] }
  | _ => none }
def FurnaceKeptWrongFalsely : Prop := furnaceKeptRow.holds Try.pinned (OpenSpec.ofChange furnaceKeptWrong)

/-- 'cottonpadlaw01.FurnaceBefore': WHATEVER THE INPUT: true; the input reads as it did. -/
def furnaceBeforeSpec : ChangeSpec := { name := "furnaceBefore", fn := fun _ => fun
  | [d1, d2, d3] => { results := [.lit (.bool true)], args := [d1, d2, d3] }
  | _ => none }
def furnaceBeforeRow : OpenClaim := { program := "ytioeikglibjefaa", sum := "e733f14a0db1757756ca589da147c8073c728f05c8e1831b92ac20e924d53097", func := "cottonpad/cottonpadlaw01.FurnaceBefore", spec := "furnaceBefore", unfollowed := true, recurses := true, plainKeys := false, apart := false }
def FurnaceBeforeSaid : Prop := furnaceBeforeRow.holds Try.pinned (OpenSpec.ofChange furnaceBeforeSpec)

/-- ITS FALSE NEIGHBOUR: 'it returns false'. Refute it at one input. -/
def furnaceBeforeWrong : ChangeSpec := { name := "furnaceBefore", fn := fun _ => fun
  | [d1, d2, d3] => { results := [.lit (.bool false)], args := [d1, d2, d3] }
  | _ => none }
def FurnaceBeforeWrongFalsely : Prop := furnaceBeforeRow.holds Try.pinned (OpenSpec.ofChange furnaceBeforeWrong)

/-- 'cottonpadlaw01.FurnaceWider': WHATEVER THE INPUT: true; the input reads as it did. -/
def furnaceWiderSpec : ChangeSpec := { name := "furnaceWider", fn := fun _ => fun
  | [d1, d2, d3] => { results := [.lit (.bool true)], args := [d1, d2, d3] }
  | _ => none }
def furnaceWiderRow : OpenClaim := { program := "ytioeikglibjefaa", sum := "e733f14a0db1757756ca589da147c8073c728f05c8e1831b92ac20e924d53097", func := "cottonpad/cottonpadlaw01.FurnaceWider", spec := "furnaceWider", unfollowed := true, recurses := true, plainKeys := false, apart := false }
def FurnaceWiderSaid : Prop := furnaceWiderRow.holds Try.pinned (OpenSpec.ofChange furnaceWiderSpec)

/-- ITS FALSE NEIGHBOUR: 'it returns false'. Refute it at one input. -/
def furnaceWiderWrong : ChangeSpec := { name := "furnaceWider", fn := fun _ => fun
  | [d1, d2, d3] => { results := [.lit (.bool false)], args := [d1, d2, d3] }
  | _ => none }
def FurnaceWiderWrongFalsely : Prop := furnaceWiderRow.holds Try.pinned (OpenSpec.ofChange furnaceWiderWrong)

/-- 'cottonpadlaw01.FurnaceLooser': WHATEVER THE INPUT: true; the input reads as it did. -/
def furnaceLooserSpec : ChangeSpec := { name := "furnaceLooser", fn := fun _ => fun
  | [d1, d2, d3] => { results := [.lit (.bool true)], args := [d1, d2, d3] }
  | _ => none }
def furnaceLooserRow : OpenClaim := { program := "ytioeikglibjefaa", sum := "e733f14a0db1757756ca589da147c8073c728f05c8e1831b92ac20e924d53097", func := "cottonpad/cottonpadlaw01.FurnaceLooser", spec := "furnaceLooser", unfollowed := true, recurses := true, plainKeys := false, apart := false }
def FurnaceLooserSaid : Prop := furnaceLooserRow.holds Try.pinned (OpenSpec.ofChange furnaceLooserSpec)

/-- ITS FALSE NEIGHBOUR: 'it returns false'. Refute it at one input. -/
def furnaceLooserWrong : ChangeSpec := { name := "furnaceLooser", fn := fun _ => fun
  | [d1, d2, d3] => { results := [.lit (.bool false)], args := [d1, d2, d3] }
  | _ => none }
def FurnaceLooserWrongFalsely : Prop := furnaceLooserRow.holds Try.pinned (OpenSpec.ofChange furnaceLooserWrong)

/-- 'cottonpadlaw01.FurnaceTurned': WHATEVER THE INPUT: true; the input reads as it did. -/
def furnaceTurnedSpec : ChangeSpec := { name := "furnaceTurned", fn := fun _ => fun
  | [d1, d2, d3, d4] => { results := [.lit (.bool true)], args := [d1, d2, d3, d4] }
  | _ => none }
def furnaceTurnedRow : OpenClaim := { program := "ytioeikglibjefaa", sum := "e733f14a0db1757756ca589da147c8073c728f05c8e1831b92ac20e924d53097", func := "cottonpad/cottonpadlaw01.FurnaceTurned", spec := "furnaceTurned", unfollowed := true, recurses := true, plainKeys := false, apart := false }
def FurnaceTurnedSaid : Prop := furnaceTurnedRow.holds Try.pinned (OpenSpec.ofChange furnaceTurnedSpec)

/-- ITS FALSE NEIGHBOUR: 'it returns false'. Refute it at one input. -/
def furnaceTurnedWrong : ChangeSpec := { name := "furnaceTurned", fn := fun _ => fun
  | [d1, d2, d3, d4] => { results := [.lit (.bool false)], args := [d1, d2, d3, d4] }
  | _ => none }
def FurnaceTurnedWrongFalsely : Prop := furnaceTurnedRow.holds Try.pinned (OpenSpec.ofChange furnaceTurnedWrong)

/-- 'cottonpadlaw01.FurnaceCurve': WHATEVER THE INPUT: true; the input reads as it did. -/
def furnaceCurveSpec : ChangeSpec := { name := "furnaceCurve", fn := fun _ => fun
  | [d1, d2] => { results := [.lit (.bool true)], args := [d1, d2] }
  | _ => none }
def furnaceCurveRow : OpenClaim := { program := "ytioeikglibjefaa", sum := "e733f14a0db1757756ca589da147c8073c728f05c8e1831b92ac20e924d53097", func := "cottonpad/cottonpadlaw01.FurnaceCurve", spec := "furnaceCurve", unfollowed := true, recurses := true, plainKeys := false, apart := false }
def FurnaceCurveSaid : Prop := furnaceCurveRow.holds Try.pinned (OpenSpec.ofChange furnaceCurveSpec)

/-- ITS FALSE NEIGHBOUR: 'it returns false'. Refute it at one input. -/
def furnaceCurveWrong : ChangeSpec := { name := "furnaceCurve", fn := fun _ => fun
  | [d1, d2] => { results := [.lit (.bool false)], args := [d1, d2] }
  | _ => none }
def FurnaceCurveWrongFalsely : Prop := furnaceCurveRow.holds Try.pinned (OpenSpec.ofChange furnaceCurveWrong)

/- THE SECOND FORM. 'bulk': how many values and letters a reading holds, each counted each time it is reached (what is shared counts as often as it is met; a slice's spare places count too). A statement '..UptoSaid' is the law's where the arguments, and the package variables that the reading takes, are together of bulk at most 1048576: NARROWER than '..Said'. Prove '..Said' where nothing that the law and all that it calls make is longer than what came in: it says more and counts as full. Else prove '..UptoSaid'. A law counts once. -/
mutual
def uptoBulk {H : Type} : DataW H → Nat
  | .lit (.string bytes) => bytes.length + 1
  | .lit _ => 1
  | .nil => 1
  | .ptr d => uptoBulk d + 1
  | .slice elems spare => uptoBulkAll elems + uptoBulkAll spare + 1
  | .agg parts => uptoBulkAll parts + 1
  | .iface _ d => uptoBulk d + 1
  | .map entries => uptoBulkEntries entries + 1
  | .held _ => 1
def uptoBulkAll {H : Type} : List (DataW H) → Nat
  | [] => 0
  | d :: r => uptoBulk d + uptoBulkAll r
def uptoBulkEntries {H : Type} : List (Lit × DataW H) → Nat
  | [] => 0
  | x :: r => uptoBulkEntry x + uptoBulkEntries r
def uptoBulkEntry {H : Type} : Lit × DataW H → Nat
  | (.string bytes, d) => bytes.length + uptoBulk d + 1
  | (_, d) => uptoBulk d + 1
 end
def uptoSmall : (H : Type) → List (DataW H) → Bool := fun _ ds => decide (uptoBulkAll ds ≤ 1048576)
def OpenSpec.upto (s : _root_.Go.ChangeSpec) : _root_.Go.OpenSpec := { _root_.Go.OpenSpec.ofChange s with cond := some uptoSmall }

/-- 'cottonpadlaw01.FurnaceCurves', WHERE WHAT IT READS IS OF BULK AT MOST 1048576: true; the input reads as it did. -/
def furnaceCurvesUptoRow : OpenClaim := { program := "ytioeikglibjefaa", sum := "e733f14a0db1757756ca589da147c8073c728f05c8e1831b92ac20e924d53097", func := "cottonpad/cottonpadlaw01.FurnaceCurves", spec := "furnaceCurves", unfollowed := true, recurses := true, plainKeys := false, apart := false, narrowed := true }
def FurnaceCurvesUptoSaid : Prop := furnaceCurvesUptoRow.holds Try.pinned (OpenSpec.upto furnaceCurvesSpec)

/-- 'cottonpadlaw01.FurnaceLefts', WHERE WHAT IT READS IS OF BULK AT MOST 1048576: true; the input reads as it did. -/
def furnaceLeftsUptoRow : OpenClaim := { program := "ytioeikglibjefaa", sum := "e733f14a0db1757756ca589da147c8073c728f05c8e1831b92ac20e924d53097", func := "cottonpad/cottonpadlaw01.FurnaceLefts", spec := "furnaceLefts", unfollowed := true, recurses := true, plainKeys := false, apart := false, narrowed := true }
def FurnaceLeftsUptoSaid : Prop := furnaceLeftsUptoRow.holds Try.pinned (OpenSpec.upto furnaceLeftsSpec)

/-- 'cottonpadlaw01.FurnaceTrue', WHERE WHAT IT READS IS OF BULK AT MOST 1048576: true; the input reads as it did. -/
def furnaceTrueUptoRow : OpenClaim := { program := "ytioeikglibjefaa", sum := "e733f14a0db1757756ca589da147c8073c728f05c8e1831b92ac20e924d53097", func := "cottonpad/cottonpadlaw01.FurnaceTrue", spec := "furnaceTrue", unfollowed := true, recurses := true, plainKeys := false, apart := false, narrowed := true }
def FurnaceTrueUptoSaid : Prop := furnaceTrueUptoRow.holds Try.pinned (OpenSpec.upto furnaceTrueSpec)

/-- 'cottonpadlaw01.FurnaceEnds', WHERE WHAT IT READS IS OF BULK AT MOST 1048576: true; the input reads as it did. -/
def furnaceEndsUptoRow : OpenClaim := { program := "ytioeikglibjefaa", sum := "e733f14a0db1757756ca589da147c8073c728f05c8e1831b92ac20e924d53097", func := "cottonpad/cottonpadlaw01.FurnaceEnds", spec := "furnaceEnds", unfollowed := true, recurses := true, plainKeys := false, apart := false, narrowed := true }
def FurnaceEndsUptoSaid : Prop := furnaceEndsUptoRow.holds Try.pinned (OpenSpec.upto furnaceEndsSpec)

/-- 'cottonpadlaw01.FurnaceMeans', WHERE WHAT IT READS IS OF BULK AT MOST 1048576: true; the input reads as it did. -/
def furnaceMeansUptoRow : OpenClaim := { program := "ytioeikglibjefaa", sum := "e733f14a0db1757756ca589da147c8073c728f05c8e1831b92ac20e924d53097", func := "cottonpad/cottonpadlaw01.FurnaceMeans", spec := "furnaceMeans", unfollowed := true, recurses := true, plainKeys := false, apart := false, narrowed := true }
def FurnaceMeansUptoSaid : Prop := furnaceMeansUptoRow.holds Try.pinned (OpenSpec.upto furnaceMeansSpec)

/-- 'cottonpadlaw01.FurnaceKept', WHERE WHAT IT READS IS OF BULK AT MOST 1048576: true; the input reads as it did. -/
def furnaceKeptUptoRow : OpenClaim := { program := "ytioeikglibjefaa", sum := "e733f14a0db1757756ca589da147c8073c728f05c8e1831b92ac20e924d53097", func := "cottonpad/cottonpadlaw01.FurnaceKept", spec := "furnaceKept", unfollowed := true, recurses := true, plainKeys := false, apart := false, narrowed := true }
def FurnaceKeptUptoSaid : Prop := furnaceKeptUptoRow.holds Try.pinned (OpenSpec.upto furnaceKeptSpec)

/-- 'cottonpadlaw01.FurnaceBefore', WHERE WHAT IT READS IS OF BULK AT MOST 1048576: true; the input reads as it did. -/
def furnaceBeforeUptoRow : OpenClaim := { program := "ytioeikglibjefaa", sum := "e733f14a0db1757756ca589da147c8073c728f05c8e1831b92ac20e924d53097", func := "cottonpad/cottonpadlaw01.FurnaceBefore", spec := "furnaceBefore", unfollowed := true, recurses := true, plainKeys := false, apart := false, narrowed := true }
def FurnaceBeforeUptoSaid : Prop := furnaceBeforeUptoRow.holds Try.pinned (OpenSpec.upto furnaceBeforeSpec)

/-- 'cottonpadlaw01.FurnaceWider', WHERE WHAT IT READS IS OF BULK AT MOST 1048576: true; the input reads as it did. -/
def furnaceWiderUptoRow : OpenClaim := { program := "ytioeikglibjefaa", sum := "e733f14a0db1757756ca589da147c8073c728f05c8e1831b92ac20e924d53097", func := "cottonpad/cottonpadlaw01.FurnaceWider", spec := "furnaceWider", unfollowed := true, recurses := true, plainKeys := false, apart := false, narrowed := true }
def FurnaceWiderUptoSaid : Prop := furnaceWiderUptoRow.holds Try.pinned (OpenSpec.upto furnaceWiderSpec)

/-- 'cottonpadlaw01.FurnaceLooser', WHERE WHAT IT READS IS OF BULK AT MOST 1048576: true; the input reads as it did. -/
def furnaceLooserUptoRow : OpenClaim := { program := "ytioeikglibjefaa", sum := "e733f14a0db1757756ca589da147c8073c728f05c8e1831b92ac20e924d53097", func := "cottonpad/cottonpadlaw01.FurnaceLooser", spec := "furnaceLooser", unfollowed := true, recurses := true, plainKeys := false, apart := false, narrowed := true }
def FurnaceLooserUptoSaid : Prop := furnaceLooserUptoRow.holds Try.pinned (OpenSpec.upto furnaceLooserSpec)

/-- 'cottonpadlaw01.FurnaceTurned', WHERE WHAT IT READS IS OF BULK AT MOST 1048576: true; the input reads as it did. -/
def furnaceTurnedUptoRow : OpenClaim := { program := "ytioeikglibjefaa", sum := "e733f14a0db1757756ca589da147c8073c728f05c8e1831b92ac20e924d53097", func := "cottonpad/cottonpadlaw01.FurnaceTurned", spec := "furnaceTurned", unfollowed := true, recurses := true, plainKeys := false, apart := false, narrowed := true }
def FurnaceTurnedUptoSaid : Prop := furnaceTurnedUptoRow.holds Try.pinned (OpenSpec.upto furnaceTurnedSpec)

/-- 'cottonpadlaw01.FurnaceCurve', WHERE WHAT IT READS IS OF BULK AT MOST 1048576: true; the input reads as it did. -/
def furnaceCurveUptoRow : OpenClaim := { program := "ytioeikglibjefaa", sum := "e733f14a0db1757756ca589da147c8073c728f05c8e1831b92ac20e924d53097", func := "cottonpad/cottonpadlaw01.FurnaceCurve", spec := "furnaceCurve", unfollowed := true, recurses := true, plainKeys := false, apart := false, narrowed := true }
def FurnaceCurveUptoSaid : Prop := furnaceCurveUptoRow.holds Try.pinned (OpenSpec.upto furnaceCurveSpec)

end Rows
end Go.Proofs.Ytioeikglibjefaa
