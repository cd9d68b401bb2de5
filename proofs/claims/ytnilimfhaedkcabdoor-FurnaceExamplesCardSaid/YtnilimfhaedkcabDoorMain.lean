/- The law's function returns true, by a run of the interpreter in the kernel. Conditions: none. -/
import Derived.Test.YtnilimfhaedkcabDoorAlive
set_option linter.unusedVariables false
namespace Cp
open Go Go.Proofs
/-- What is known: all that, and the first half of the law. -/
noncomputable def look4 : Look := { look with memo := fun f => if Nat.beq f 24 = true then [([runV], .bool true)] else if Nat.beq f 15 = true then [([runV, rulesV], i 0)] else if Nat.beq f 25 = true then [([runV], openV)] else if Nat.beq f 26 = true then [([runV, rulesV], leftV)] else if Nat.beq f 4 = true then [([], .bool true)] else [], pmemo := fun f => if Nat.beq f 8 = true then [([], runV)] else if Nat.beq f 9 = true then [([], rulesV)] else [] }
theorem look4_m : ∀ fid xs v, (xs, v) ∈ look4.memo fid → PureC Tryd.prog fid xs v := fun fid vs v h => by
  simp only [look4] at h
  split at h
  · rename_i hf
    rw [Nat.beq_eq] at hf
    subst hf
    simp only [List.mem_cons, List.not_mem_nil, or_false, Prod.mk.injEq] at h
    rcases h with ⟨rfl, rfl⟩
    exact ran_run
  · skip
    split at h
    · rename_i hf
      rw [Nat.beq_eq] at hf
      subst hf
      simp only [List.mem_cons, List.not_mem_nil, or_false, Prod.mk.injEq] at h
      rcases h with ⟨rfl, rfl⟩
      exact check_run
    · skip
      split at h
      · rename_i hf
        rw [Nat.beq_eq] at hf
        subst hf
        simp only [List.mem_cons, List.not_mem_nil, or_false, Prod.mk.injEq] at h
        rcases h with ⟨rfl, rfl⟩
        exact open_run
      · skip
        split at h
        · rename_i hf
          rw [Nat.beq_eq] at hf
          subst hf
          simp only [List.mem_cons, List.not_mem_nil, or_false, Prod.mk.injEq] at h
          rcases h with ⟨rfl, rfl⟩
          exact left_run
        · skip
          split at h
          · rename_i hf
            rw [Nat.beq_eq] at hf
            subst hf
            simp only [List.mem_cons, List.not_mem_nil, or_false, Prod.mk.injEq] at h
            rcases h with ⟨rfl, rfl⟩
            exact alive
          · skip
            cases h
theorem look4_p : ∀ fid xs v, (xs, v) ∈ look4.pmemo fid → PureC Tryd.prog fid xs v := fun fid vs v h => by
  simp only [look4] at h
  split at h
  · rename_i hf
    rw [Nat.beq_eq] at hf
    subst hf
    simp only [List.mem_cons, List.not_mem_nil, or_false, Prod.mk.injEq] at h
    rcases h with ⟨rfl, rfl⟩
    exact run_run
  · skip
    split at h
    · rename_i hf
      rw [Nat.beq_eq] at hf
      subst hf
      simp only [List.mem_cons, List.not_mem_nil, or_false, Prod.mk.injEq] at h
      rcases h with ⟨rfl, rfl⟩
      exact rules_run
    · skip
      cases h
theorem look4_ok : LookOK Tryd.prog look4 := ⟨look_ok.fn, look4_m, look4_p⟩

theorem main : PureC Tryd.prog 3 [] (.bool true) := law_run (n := 400) tabOK mix look4_ok (by kernel_rfl)
end Cp
