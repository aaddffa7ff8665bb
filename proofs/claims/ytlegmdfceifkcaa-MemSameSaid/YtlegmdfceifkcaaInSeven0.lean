/-
  Ways through the code, part 0.
-/
import Derived.Test.YtlegmdfceifkcaaBaseH
namespace Go.Proofs.Ytlegmdfceifkcaa.Tab
open Go.Sim
set_option maxRecDepth 100000

theorem inSeven0 (val : Nat → Int) (h : Holds val [.is (.a 0) 0, .ge (.a 1) 7]) : InQ Try.prog 26 sizes val :=
  leafIn h mix (by kernel_rfl)

theorem inSeven1 (val : Nat → Int) (h : Holds val [.is (.a 0) 1, .ne (.a 0) 0, .ge (.a 1) 7]) : InQ Try.prog 26 sizes val :=
  leafIn h mix (by kernel_rfl)

theorem inSeven2 (val : Nat → Int) (h : Holds val [.is (.a 0) 2, .ne (.a 0) 1, .ne (.a 0) 0, .ge (.a 1) 7]) : InQ Try.prog 26 sizes val :=
  leafIn h mix (by kernel_rfl)

theorem inSeven3 (val : Nat → Int) (h : Holds val [.is (.a 0) 4, .ne (.a 0) 2, .ne (.a 0) 1, .ne (.a 0) 0, .ge (.a 1) 7]) : InQ Try.prog 26 sizes val :=
  leafIn h mix (by kernel_rfl)

theorem inSeven4 (val : Nat → Int) (h : Holds val [.is (.a 0) 8, .ne (.a 0) 4, .ne (.a 0) 2, .ne (.a 0) 1, .ne (.a 0) 0, .ge (.a 1) 7]) : InQ Try.prog 26 sizes val :=
  leafIn h mix (by kernel_rfl)

theorem inSeven5 (val : Nat → Int) (h : Holds val [.is (.a 0) 16, .ne (.a 0) 8, .ne (.a 0) 4, .ne (.a 0) 2, .ne (.a 0) 1, .ne (.a 0) 0, .ge (.a 1) 7]) : InQ Try.prog 26 sizes val :=
  leafIn h mix (by kernel_rfl)

theorem inSeven6 (val : Nat → Int) (h : Holds val [.is (.a 0) 32, .ne (.a 0) 16, .ne (.a 0) 8, .ne (.a 0) 4, .ne (.a 0) 2, .ne (.a 0) 1, .ne (.a 0) 0, .ge (.a 1) 7]) : InQ Try.prog 26 sizes val :=
  leafIn h mix (by kernel_rfl)

theorem inSeven7 (val : Nat → Int) (h : Holds val [.ne (.a 0) 32, .ne (.a 0) 16, .ne (.a 0) 8, .ne (.a 0) 4, .ne (.a 0) 2, .ne (.a 0) 1, .ne (.a 0) 0, .ge (.a 1) 7]) : InQ Try.prog 26 sizes val :=
  leafIn h mix (by kernel_rfl)

end Go.Proofs.Ytlegmdfceifkcaa.Tab
