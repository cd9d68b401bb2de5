/- The chapter's examples, run (ALeft). Conditions: none. -/
import Derived.Test.YtioeikglibjefaaABase
set_option linter.unusedVariables false
namespace Cp
open Go Go.Proofs
noncomputable def look2 : Look := { look with memo := fun f => if Nat.beq f 49 = true then [([runV], .bool true)] else if Nat.beq f 20 = true then [([runV, rulesV], ii 0)] else if Nat.beq f 50 = true then [([runV], openV)] else [], pmemo := fun f => [] }
theorem look2_m : ∀ fid xs v, (xs, v) ∈ look2.memo fid → PureC Try.prog fid xs v := fun fid vs v h => by
  simp only [look2] at h
  split at h
  · rename_i hf
    rw [Nat.beq_eq] at hf
    subst hf
    simp only [List.mem_cons, List.not_mem_nil, or_false, Prod.mk.injEq] at h
    rcases h with ⟨rfl, rfl⟩
    exact ran_run
  · skip
    split at h
    · rename_i hf
      rw [Nat.beq_eq] at hf
      subst hf
      simp only [List.mem_cons, List.not_mem_nil, or_false, Prod.mk.injEq] at h
      rcases h with ⟨rfl, rfl⟩
      exact check_run
    · skip
      split at h
      · rename_i hf
        rw [Nat.beq_eq] at hf
        subst hf
        simp only [List.mem_cons, List.not_mem_nil, or_false, Prod.mk.injEq] at h
        rcases h with ⟨rfl, rfl⟩
        exact open_run
      · skip
        cases h
theorem look2_p : ∀ fid xs v, (xs, v) ∈ look2.pmemo fid → PureC Try.prog fid xs v := fun fid vs v h => by
  simp only [look2] at h
  cases h
theorem look2_ok : LookOK Try.prog look2 := ⟨look_ok.fn, look2_m, look2_p⟩

def leftV : Val := .lst 4 [[ii 1, .int .u8 3, ii 4, .int .u8 1], [ii 2, .int .u8 2, ii (-1), .int .u8 1], [ii 3, .int .u8 4, ii (-1), .int .u8 2]]
theorem left_run : PureC Try.prog 57 [runV, rulesV] leftV := run_all (n := 400) tabOK mix look2_ok (by rfl) (by rfl) (by kernel_rfl)
end Cp
