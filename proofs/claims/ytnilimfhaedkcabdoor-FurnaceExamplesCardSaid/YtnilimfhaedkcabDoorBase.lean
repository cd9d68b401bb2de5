/- The run and the rules of the chapter's examples are valid; the run at work is told: by runs of the interpreter in the kernel. Conditions: none. -/
import Derived.Test.YtnilimfhaedkcabDoorTab
set_option linter.unusedVariables false
set_option maxRecDepth 100000
namespace Cp
open Go Go.Proofs
abbrev i (n : Int) : Val := .int .i64 n
def runV : Val := .agg [i 7, .lst 2 [[i 0, i 20], [i 5, i 520], [i 10, i 680]], .lst 6 [[i 1, i (-5), i 5, i 0, i 0, i 0], [i 4, i 0, i 0, i 0, i 1, i 3]],
  .lst 2 [[.lst 1 [[i 120], [i 130]], i 10], [.lst 1 [[i 220], [i 210]], i 10], [.lst 1 [[i 330], [i 400]], i 25]], i (-2), i 2]
def rulesV : Val := .agg [.lst 2 [[i 2, i 100]], i 60, i 1, i 0, i 20, i 3]
def openV : Val := .pim [i 7, .lst 2 [[i 0, i 20], [i 5, i 520], [i 10, i 680]], .lst 6 [[i 1, i (-5), i 5, i 0, i 0, i 0], [i 4, i 0, i 0, i 0, i 1, i 3]], .lst 2 
  [[.lst 1 [[i 120], [i 130]], i 10], [.lst 1 [[i 220], [i 210]], i 10], [.lst 1 [[i 330], [i 400]], i 25]], i (-2), i 2, i 0, i 0, i 102900, i 140700, 
  i 178500, i 182700, i 273000, i 281400, i 0, i 0, i 0, i 0, i 0, i 0, i 0, i 0, i 0, i 0, i 0, i 0, i 0, i 0, i 0, i 0, i 0, i 0, i 0, i 0, i 0, i 0, 
  i 0, i 0, i 0, i 0, i 0, i 0, i 0, i 0, i 0, i 0, i 0, i 0, i 0, i 0, i 0, i 0, i 0, i 0, i 0, i 0, i 0, i 0, i 0, i 0, i 0, i 0, i 0, i 0, i 0, i 0, 
  i 0, i 0, i 0, i 0, i 0, i 0, i 0, i 0, i 0, i 0, i 0, i 0, i 0, i 0, i 0, i 0, i 0, i 0, i 0, i 0, i 0, i 0, i 0, i 0, i 0, i 0, i 0, i 0, i 0, i 0, 
  i 0, i 0, i 0, i 0, i 0, i 0, i 0, i 0, i 0, i 0, i 0, i 0, i 0, i 0, i 0, i 0, i 0, i 0, i 0, i 0, i 0, i 0, i 0, i 0, i 0, i 0, i 0, i 0, i 0, i 0, 
  i 0, i 0, .bool false, .bool true, .bool true, .bool true, .bool false, .bool false, .bool false, .bool false, .bool false, .bool false, .bool false, 
  .bool false, .bool false, .bool false, .bool false, .bool false, .bool false, .bool false, .bool false, .bool false, .bool false, .bool false, .bool 
  false, .bool false, .bool false, .bool false, .bool false, .bool false, .bool false, .bool false, .bool false, .bool false, .bool false, .bool false, 
  .bool false, .bool false, .bool false, .bool false, .bool false, .bool false, .bool false, .bool false, .bool false, .bool false, .bool false, .bool 
  false, .bool false, .bool false, .bool false, .bool false, .bool false, .bool false, .bool false, .bool false, .bool false, .bool false, .bool false, 
  .bool false, .bool false, .bool false, .bool false] 
theorem run_run : PureC Tryd.prog 8 [] runV := run_all (n := 400) tabOK mix look_ok (by rfl) (by rfl) (by kernel_rfl)
theorem rules_run : PureC Tryd.prog 9 [] rulesV := run_all (n := 400) tabOK mix look_ok (by rfl) (by rfl) (by kernel_rfl)
theorem ran_run : PureC Tryd.prog 24 [runV] (.bool true) := run_val (n := 400) tabOK mix look_ok (by rfl) (by rfl) (by kernel_rfl)
noncomputable def look1 : Look := { look with memo := fun f => if Nat.beq f 24 = true then [([runV], .bool true)] else [], pmemo := fun f => [] }
theorem look1_m : ∀ fid xs v, (xs, v) ∈ look1.memo fid → PureC Tryd.prog fid xs v := fun fid vs v h => by
  simp only [look1] at h
  split at h
  · rename_i hf
    rw [Nat.beq_eq] at hf
    subst hf
    simp only [List.mem_cons, List.not_mem_nil, or_false, Prod.mk.injEq] at h
    rcases h with ⟨rfl, rfl⟩
    exact ran_run
  · skip
    cases h
theorem look1_p : ∀ fid xs v, (xs, v) ∈ look1.pmemo fid → PureC Tryd.prog fid xs v := fun fid vs v h => by
  simp only [look1] at h
  cases h
theorem look1_ok : LookOK Tryd.prog look1 := ⟨look_ok.fn, look1_m, look1_p⟩

theorem check_run : PureC Tryd.prog 15 [runV, rulesV] (i 0) := run_val (n := 400) tabOK mix look1_ok (by rfl) (by rfl) (by kernel_rfl)
theorem open_run : PureC Tryd.prog 25 [runV] openV := run_all (n := 400) tabOK mix look_ok (by kernel_rfl) (by kernel_rfl) (by kernel_rfl)
end Cp
