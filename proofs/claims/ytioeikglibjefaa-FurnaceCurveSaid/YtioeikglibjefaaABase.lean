/- The chapter's examples, run (ABase). Conditions: none. -/
import Derived.Test.YtioeikglibjefaaTab
set_option linter.unusedVariables false
set_option maxRecDepth 100000
namespace Cp
open Go Go.Proofs
abbrev ii (n : Int) : Val := .int .i64 n
def runV : Val := .agg [ii 7, .lst 2 [[ii 0, ii 20], [ii 5, ii 520], [ii 10, ii 680]], .lst 6 [[ii 1, ii (-5), ii 5, ii 0, ii 0, ii 0], [ii 4, ii 0, ii 0, ii 0, ii 1, ii 3]],
  .lst 2 [[.lst 1 [[ii 120], [ii 130]], ii 10], [.lst 1 [[ii 220], [ii 210]], ii 10], [.lst 1 [[ii 330], [ii 400]], ii 25]], ii (-2), ii 2]
def rulesV : Val := .agg [.lst 2 [[ii 2, ii 100]], ii 60, ii 1, ii 0, ii 20, ii 3]
def openV : Val := .pim [ii 7, .lst 2 [[ii 0, ii 20], [ii 5, ii 520], [ii 10, ii 680]], .lst 6 [[ii 1, ii (-5), ii 5, ii 0, ii 0, ii 0], [ii 4, ii 0, ii 0, ii 0, ii 1, ii 3]], .lst 2 
  [[.lst 1 [[ii 120], [ii 130]], ii 10], [.lst 1 [[ii 220], [ii 210]], ii 10], [.lst 1 [[ii 330], [ii 400]], ii 25]], ii (-2), ii 2, ii 0, ii 0, ii 102900, ii 140700, 
  ii 178500, ii 182700, ii 273000, ii 281400, ii 0, ii 0, ii 0, ii 0, ii 0, ii 0, ii 0, ii 0, ii 0, ii 0, ii 0, ii 0, ii 0, ii 0, ii 0, ii 0, ii 0, ii 0, ii 0, ii 0, ii 0, ii 0, 
  ii 0, ii 0, ii 0, ii 0, ii 0, ii 0, ii 0, ii 0, ii 0, ii 0, ii 0, ii 0, ii 0, ii 0, ii 0, ii 0, ii 0, ii 0, ii 0, ii 0, ii 0, ii 0, ii 0, ii 0, ii 0, ii 0, ii 0, ii 0, ii 0, ii 0, 
  ii 0, ii 0, ii 0, ii 0, ii 0, ii 0, ii 0, ii 0, ii 0, ii 0, ii 0, ii 0, ii 0, ii 0, ii 0, ii 0, ii 0, ii 0, ii 0, ii 0, ii 0, ii 0, ii 0, ii 0, ii 0, ii 0, ii 0, ii 0, ii 0, ii 0, 
  ii 0, ii 0, ii 0, ii 0, ii 0, ii 0, ii 0, ii 0, ii 0, ii 0, ii 0, ii 0, ii 0, ii 0, ii 0, ii 0, ii 0, ii 0, ii 0, ii 0, ii 0, ii 0, ii 0, ii 0, ii 0, ii 0, ii 0, ii 0, ii 0, ii 0, 
  ii 0, ii 0, .bool false, .bool true, .bool true, .bool true, .bool false, .bool false, .bool false, .bool false, .bool false, .bool false, .bool false, 
  .bool false, .bool false, .bool false, .bool false, .bool false, .bool false, .bool false, .bool false, .bool false, .bool false, .bool false, .bool 
  false, .bool false, .bool false, .bool false, .bool false, .bool false, .bool false, .bool false, .bool false, .bool false, .bool false, .bool false, 
  .bool false, .bool false, .bool false, .bool false, .bool false, .bool false, .bool false, .bool false, .bool false, .bool false, .bool false, .bool 
  false, .bool false, .bool false, .bool false, .bool false, .bool false, .bool false, .bool false, .bool false, .bool false, .bool false, .bool false, 
  .bool false, .bool false, .bool false, .bool false] 
theorem run_run : PureC Try.prog 61 [] runV := run_all (n := 400) tabOK mix look_ok (by rfl) (by rfl) (by kernel_rfl)
theorem rules_run : PureC Try.prog 62 [] rulesV := run_all (n := 400) tabOK mix look_ok (by rfl) (by rfl) (by kernel_rfl)
theorem ran_run : PureC Try.prog 49 [runV] (.bool true) := run_val (n := 400) tabOK mix look_ok (by rfl) (by rfl) (by kernel_rfl)
noncomputable def look1 : Look := { look with memo := fun f => if Nat.beq f 49 = true then [([runV], .bool true)] else [], pmemo := fun f => [] }
theorem look1_m : ∀ fid xs v, (xs, v) ∈ look1.memo fid → PureC Try.prog fid xs v := fun fid vs v h => by
  simp only [look1] at h
  split at h
  · rename_i hf
    rw [Nat.beq_eq] at hf
    subst hf
    simp only [List.mem_cons, List.not_mem_nil, or_false, Prod.mk.injEq] at h
    rcases h with ⟨rfl, rfl⟩
    exact ran_run
  · skip
    cases h
theorem look1_p : ∀ fid xs v, (xs, v) ∈ look1.pmemo fid → PureC Try.prog fid xs v := fun fid vs v h => by
  simp only [look1] at h
  cases h
theorem look1_ok : LookOK Try.prog look1 := ⟨look_ok.fn, look1_m, look1_p⟩

theorem check_run : PureC Try.prog 20 [runV, rulesV] (ii 0) := run_val (n := 400) tabOK mix look1_ok (by rfl) (by rfl) (by kernel_rfl)
theorem open_run : PureC Try.prog 50 [runV] openV := run_all (n := 400) tabOK mix look_ok (by kernel_rfl) (by kernel_rfl) (by kernel_rfl)
end Cp
