/- The first half of the law is true, by a run of the interpreter in the kernel. Conditions: none. -/
import Derived.Test.YtnilimfhaedkcaaNet
namespace Cp
open Go Go.Proofs
/-- What is known: a valid net. -/
noncomputable def look1 : Look := { look with memo := fun f => if Nat.beq f 14 = true then [([netV], i 0)] else [] }
theorem look1_ok : LookOK Try.prog look1 := ⟨look_ok.fn, fun fid vs v h => by
  simp only [look1] at h
  split at h
  · rename_i hf
    rw [Nat.beq_eq] at hf
    simp only [List.mem_singleton, Prod.mk.injEq] at h
    obtain ⟨rfl, rfl⟩ := h
    subst hf
    exact check_net
  · cases h⟩
theorem alive : PureC Try.prog 4 [] (.bool true) := run_val (n := 400) tabOK mix look1_ok (by rfl) (by rfl) (by kernel_rfl)
end Cp
