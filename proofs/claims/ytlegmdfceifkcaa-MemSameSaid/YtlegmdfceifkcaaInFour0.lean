/-
  Ways through the code, part 0.
-/
import Derived.Test.YtlegmdfceifkcaaBaseH
namespace Go.Proofs.Ytlegmdfceifkcaa.Tab
open Go.Sim
set_option maxRecDepth 100000

theorem inFour0 (val : Nat → Int) (h : Holds val [.is (.a 0) 1, .ge (.a 1) 4]) : InQ Try.prog 26 scales val :=
  leafIn h mix (by kernel_rfl)

theorem inFour1 (val : Nat → Int) (h : Holds val [.is (.a 0) 2, .ne (.a 0) 1, .ge (.a 1) 4]) : InQ Try.prog 26 scales val :=
  leafIn h mix (by kernel_rfl)

theorem inFour2 (val : Nat → Int) (h : Holds val [.is (.a 0) 4, .ne (.a 0) 2, .ne (.a 0) 1, .ge (.a 1) 4]) : InQ Try.prog 26 scales val :=
  leafIn h mix (by kernel_rfl)

theorem inFour3 (val : Nat → Int) (h : Holds val [.is (.a 0) 8, .ne (.a 0) 4, .ne (.a 0) 2, .ne (.a 0) 1, .ge (.a 1) 4]) : InQ Try.prog 26 scales val :=
  leafIn h mix (by kernel_rfl)

theorem inFour4 (val : Nat → Int) (h : Holds val [.ne (.a 0) 8, .ne (.a 0) 4, .ne (.a 0) 2, .ne (.a 0) 1, .ge (.a 1) 4]) : InQ Try.prog 26 scales val :=
  leafIn h mix (by kernel_rfl)

end Go.Proofs.Ytlegmdfceifkcaa.Tab
