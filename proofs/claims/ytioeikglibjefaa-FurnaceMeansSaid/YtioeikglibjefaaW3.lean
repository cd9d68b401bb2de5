/- Plain facts of the furnace (W3). Conditions: none. -/
import Derived.Test.YtioeikglibjefaaW1
set_option linter.unusedVariables false
/-! A nil slice told as a slice without elements. -/
namespace Cp
open Go
section
variable {P : Program} {G : Gh} {w : World}
theorem PureC.args {fid : FuncId} {as as' : List Val} {v : Val} (h : PureC P fid as v) (hn : noids as' = true) (hv : ∀ G w xs, VRs G w as' xs → VRs G w as xs) : PureC P fid as' v :=
  ⟨h.1, hn, h.2.2.1, fun G w xs hR hvs => h.2.2.2 G w xs hR (hv G w xs hvs)⟩
theorem VR.agg_nils {n : Nat} {cs : List Val} {x : Value} (h : VR G w (.agg (.nils :: cs)) x) : VR G w (.agg (.lst n [] :: cs)) x := by
  cases h with
  | agg _ xs hs hc hv =>
    refine .agg _ xs (by simpa using hs) (fun i v hi => ?_) (fun i v hi => ?_)
    · cases i with
      | zero => cases hi; rfl
      | succ i => exact hc (i + 1) v hi
    · cases i with
      | zero => cases hi; exact (hv 0 .nils rfl).nils_lst _
      | succ i => exact hv (i + 1) v hi
/-- The second argument. -/
theorem PureC.nils2 {fid : FuncId} {a v : Val} {n : Nat} {cs : List Val} (h : PureC P fid [a, .agg (.lst n [] :: cs)] v) (hn : noids [a, .agg (.nils :: cs)] = true) : PureC P fid [a, .agg (.nils :: cs)] v :=
  h.args hn fun G w xs hv => ⟨hv.1, fun i v hi => by
    match i, hi with
    | 0, hi => exact hv.2 0 v hi
    | 1, hi => cases hi; exact (hv.2 1 _ rfl).agg_nils
    | i + 2, hi => simp at hi⟩
end
end Cp
