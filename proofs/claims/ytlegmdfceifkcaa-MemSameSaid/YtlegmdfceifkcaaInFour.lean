/-
  All ways together.
-/
import Derived.Test.YtlegmdfceifkcaaInFour0
namespace Go.Proofs.Ytlegmdfceifkcaa.Tab
open Go.Sim
set_option maxRecDepth 100000


theorem inFour (val : Nat → Int) (h : Holds val [.ge (.a 1) 4]) : InQ Try.prog 26 scales val :=
  by_way (.eq (.c 1) (.a 0)) (.is (.a 0) 1) (.ne (.a 0) 1) (by kernel_rfl) (by kernel_rfl) h
  (fun h => inFour0 val h)
  (fun h => by_way (.eq (.c 2) (.a 0)) (.is (.a 0) 2) (.ne (.a 0) 2) (by kernel_rfl) (by kernel_rfl) h
  (fun h => inFour1 val h)
  (fun h => by_way (.eq (.c 4) (.a 0)) (.is (.a 0) 4) (.ne (.a 0) 4) (by kernel_rfl) (by kernel_rfl) h
  (fun h => inFour2 val h)
  (fun h => by_way (.eq (.c 8) (.a 0)) (.is (.a 0) 8) (.ne (.a 0) 8) (by kernel_rfl) (by kernel_rfl) h
  (fun h => inFour3 val h)
  (fun h => inFour4 val h))))

end Go.Proofs.Ytlegmdfceifkcaa.Tab
