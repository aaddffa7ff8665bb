/-
  Ways through the code, part 0.
-/
import Derived.Test.YtlegmdfceifkcaaBaseH
namespace Go.Proofs.Ytlegmdfceifkcaa.Tab
open Go.Sim
set_option maxRecDepth 100000

theorem sizedQ0 (val : Nat → Int) (h : Holds val [.is (.a 0) 0]) : Ret Try.prog 23 [.int .i64 (val 0)] (.bool (sizes.any fun m => val 0 == m)) :=
  leafOne h mix (by kernel_rfl)

theorem sizedQ1 (val : Nat → Int) (h : Holds val [.is (.a 0) 1, .ne (.a 0) 0]) : Ret Try.prog 23 [.int .i64 (val 0)] (.bool (sizes.any fun m => val 0 == m)) :=
  leafOne h mix (by kernel_rfl)

theorem sizedQ2 (val : Nat → Int) (h : Holds val [.is (.a 0) 2, .ne (.a 0) 1, .ne (.a 0) 0]) : Ret Try.prog 23 [.int .i64 (val 0)] (.bool (sizes.any fun m => val 0 == m)) :=
  leafOne h mix (by kernel_rfl)

theorem sizedQ3 (val : Nat → Int) (h : Holds val [.is (.a 0) 4, .ne (.a 0) 2, .ne (.a 0) 1, .ne (.a 0) 0]) : Ret Try.prog 23 [.int .i64 (val 0)] (.bool (sizes.any fun m => val 0 == m)) :=
  leafOne h mix (by kernel_rfl)

theorem sizedQ4 (val : Nat → Int) (h : Holds val [.is (.a 0) 8, .ne (.a 0) 4, .ne (.a 0) 2, .ne (.a 0) 1, .ne (.a 0) 0]) : Ret Try.prog 23 [.int .i64 (val 0)] (.bool (sizes.any fun m => val 0 == m)) :=
  leafOne h mix (by kernel_rfl)

theorem sizedQ5 (val : Nat → Int) (h : Holds val [.is (.a 0) 16, .ne (.a 0) 8, .ne (.a 0) 4, .ne (.a 0) 2, .ne (.a 0) 1, .ne (.a 0) 0]) : Ret Try.prog 23 [.int .i64 (val 0)] (.bool (sizes.any fun m => val 0 == m)) :=
  leafOne h mix (by kernel_rfl)

theorem sizedQ6 (val : Nat → Int) (h : Holds val [.is (.a 0) 32, .ne (.a 0) 16, .ne (.a 0) 8, .ne (.a 0) 4, .ne (.a 0) 2, .ne (.a 0) 1, .ne (.a 0) 0]) : Ret Try.prog 23 [.int .i64 (val 0)] (.bool (sizes.any fun m => val 0 == m)) :=
  leafOne h mix (by kernel_rfl)

theorem sizedQ7 (val : Nat → Int) (h : Holds val [.ne (.a 0) 32, .ne (.a 0) 16, .ne (.a 0) 8, .ne (.a 0) 4, .ne (.a 0) 2, .ne (.a 0) 1, .ne (.a 0) 0]) : Ret Try.prog 23 [.int .i64 (val 0)] (.bool (sizes.any fun m => val 0 == m)) :=
  leafOne h mix (by kernel_rfl)

end Go.Proofs.Ytlegmdfceifkcaa.Tab
