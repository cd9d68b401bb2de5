/- The chapter's examples, run (AAlive). Conditions: none. -/
import Derived.Test.YtioeikglibjefaaALeft
set_option linter.unusedVariables false
namespace Cp
open Go Go.Proofs
/-- What is known: the run and the rules are valid, the run at work, its breaches. -/
noncomputable def look3 : Look := { look with memo := fun f => if Nat.beq f 49 = true then [([runV], .bool true)] else if Nat.beq f 20 = true then [([runV, rulesV], ii 0)] else if Nat.beq f 50 = true then [([runV], openV)] else if Nat.beq f 57 = true then [([runV, rulesV], leftV)] else [], pmemo := fun f => if Nat.beq f 61 = true then [([], runV)] else if Nat.beq f 62 = true then [([], rulesV)] else [] }
theorem look3_m : ∀ fid xs v, (xs, v) ∈ look3.memo fid → PureC Try.prog fid xs v := fun fid vs v h => by
  simp only [look3] at h
  split at h
  · rename_i hf
    rw [Nat.beq_eq] at hf
    subst hf
    simp only [List.mem_cons, List.not_mem_nil, or_false, Prod.mk.injEq] at h
    rcases h with ⟨rfl, rfl⟩
    exact ran_run
  · skip
    split at h
    · rename_i hf
      rw [Nat.beq_eq] at hf
      subst hf
      simp only [List.mem_cons, List.not_mem_nil, or_false, Prod.mk.injEq] at h
      rcases h with ⟨rfl, rfl⟩
      exact check_run
    · skip
      split at h
      · rename_i hf
        rw [Nat.beq_eq] at hf
        subst hf
        simp only [List.mem_cons, List.not_mem_nil, or_false, Prod.mk.injEq] at h
        rcases h with ⟨rfl, rfl⟩
        exact open_run
      · skip
        split at h
        · rename_i hf
          rw [Nat.beq_eq] at hf
          subst hf
          simp only [List.mem_cons, List.not_mem_nil, or_false, Prod.mk.injEq] at h
          rcases h with ⟨rfl, rfl⟩
          exact left_run
        · skip
          cases h
theorem look3_p : ∀ fid xs v, (xs, v) ∈ look3.pmemo fid → PureC Try.prog fid xs v := fun fid vs v h => by
  simp only [look3] at h
  split at h
  · rename_i hf
    rw [Nat.beq_eq] at hf
    subst hf
    simp only [List.mem_cons, List.not_mem_nil, or_false, Prod.mk.injEq] at h
    rcases h with ⟨rfl, rfl⟩
    exact run_run
  · skip
    split at h
    · rename_i hf
      rw [Nat.beq_eq] at hf
      subst hf
      simp only [List.mem_cons, List.not_mem_nil, or_false, Prod.mk.injEq] at h
      rcases h with ⟨rfl, rfl⟩
      exact rules_run
    · skip
      cases h
theorem look3_ok : LookOK Try.prog look3 := ⟨look_ok.fn, look3_m, look3_p⟩

theorem alive_run : PureC Try.prog 33 [] (.bool true) := run_val (n := 400) tabOK mix look3_ok (by rfl) (by rfl) (by kernel_rfl)
end Cp
