/- The net of the chapter's examples is valid: told by a run of the interpreter in the kernel. Conditions: none. -/
import Derived.Test.YtnilimfhaedkcaaTab
namespace Cp
open Go Go.Proofs
abbrev i (n : Int) : Val := .int .i64 n
def netV : Val := .agg [.lst 4 [[i 0, i 1, i 10, i 20], [i 1, i 2, i 0, i 50], [i 1, i 3, i 100, i 100]],
  .lst 8 [[i 5, i 2, i 80, i 500, i 66, i 70, i 0, i 1], [i 9, i 3, i 100, i 400, i 141, i 145, i 2, i 2]], .lst 3 [[i 3000, i 3100, i 5], [i 3500, i 3500, i 10]], i 1, i 6000, i 7000, i 30]
theorem check_net : PureC Try.prog 14 [netV] (i 0) := run_val (n := 400) tabOK mix look_ok (by rfl) (by rfl) (by kernel_rfl)
end Cp
