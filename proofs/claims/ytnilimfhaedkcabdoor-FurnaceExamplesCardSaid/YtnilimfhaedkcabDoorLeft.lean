/- The limits that the run of the examples may have broken, told by a run of the interpreter in the kernel, whichever order maps are walked in. Conditions: none. -/
import Derived.Test.YtnilimfhaedkcabDoorBase
set_option linter.unusedVariables false
namespace Cp
open Go Go.Proofs
noncomputable def look2 : Look := { look with memo := fun f => if Nat.beq f 24 = true then [([runV], .bool true)] else if Nat.beq f 15 = true then [([runV, rulesV], i 0)] else if Nat.beq f 25 = true then [([runV], openV)] else [], pmemo := fun f => [] }
theorem look2_m : ∀ fid xs v, (xs, v) ∈ look2.memo fid → PureC Tryd.prog fid xs v := fun fid vs v h => by
  simp only [look2] at h
  split at h
  · rename_i hf
    rw [Nat.beq_eq] at hf
    subst hf
    simp only [List.mem_cons, List.not_mem_nil, or_false, Prod.mk.injEq] at h
    rcases h with ⟨rfl, rfl⟩
    exact ran_run
  · skip
    split at h
    · rename_i hf
      rw [Nat.beq_eq] at hf
      subst hf
      simp only [List.mem_cons, List.not_mem_nil, or_false, Prod.mk.injEq] at h
      rcases h with ⟨rfl, rfl⟩
      exact check_run
    · skip
      split at h
      · rename_i hf
        rw [Nat.beq_eq] at hf
        subst hf
        simp only [List.mem_cons, List.not_mem_nil, or_false, Prod.mk.injEq] at h
        rcases h with ⟨rfl, rfl⟩
        exact open_run
      · skip
        cases h
theorem look2_p : ∀ fid xs v, (xs, v) ∈ look2.pmemo fid → PureC Tryd.prog fid xs v := fun fid vs v h => by
  simp only [look2] at h
  cases h
theorem look2_ok : LookOK Tryd.prog look2 := ⟨look_ok.fn, look2_m, look2_p⟩

def leftV : Val := .lst 4 [[i 1, .int .u8 3, i 4, .int .u8 1], [i 2, .int .u8 2, i (-1), .int .u8 1], [i 3, .int .u8 4, i (-1), .int .u8 2]]
theorem left_run : PureC Tryd.prog 26 [runV, rulesV] leftV := run_all (n := 400) tabOK mix look2_ok (by rfl) (by rfl) (by kernel_rfl)
end Cp
