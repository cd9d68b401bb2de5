/- The law's function returns true, by a run of the interpreter in the kernel. Conditions: none. -/
import Derived.Test.YtnilimfhaedkcaaAlive
namespace Cp
open Go Go.Proofs
/-- What is known: a valid net, the first half of the law. -/
noncomputable def look2 : Look := { look with memo := fun f => if Nat.beq f 14 = true then [([netV], i 0)] else if Nat.beq f 4 = true then [([], .bool true)] else [] }
theorem look2_ok : LookOK Try.prog look2 := ⟨look_ok.fn, fun fid vs v h => by
  simp only [look2] at h
  split at h
  · rename_i hf
    rw [Nat.beq_eq] at hf
    simp only [List.mem_singleton, Prod.mk.injEq] at h
    obtain ⟨rfl, rfl⟩ := h
    subst hf
    exact check_net
  · split at h
    · rename_i hf
      rw [Nat.beq_eq] at hf
      simp only [List.mem_singleton, Prod.mk.injEq] at h
      obtain ⟨rfl, rfl⟩ := h
      subst hf
      exact alive
    · cases h⟩
theorem main : PureC Try.prog 3 [] (.bool true) := law_run (n := 400) tabOK mix look2_ok (by kernel_rfl)
end Cp
