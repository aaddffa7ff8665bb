/-
  All ways together.
-/
import Derived.Test.YtlegmdfceifkcaaInSeven0
namespace Go.Proofs.Ytlegmdfceifkcaa.Tab
open Go.Sim
set_option maxRecDepth 100000


theorem inSeven (val : Nat → Int) (h : Holds val [.ge (.a 1) 7]) : InQ Try.prog 26 sizes val :=
  by_way (.eq (.c 0) (.a 0)) (.is (.a 0) 0) (.ne (.a 0) 0) (by kernel_rfl) (by kernel_rfl) h
  (fun h => inSeven0 val h)
  (fun h => by_way (.eq (.c 1) (.a 0)) (.is (.a 0) 1) (.ne (.a 0) 1) (by kernel_rfl) (by kernel_rfl) h
  (fun h => inSeven1 val h)
  (fun h => by_way (.eq (.c 2) (.a 0)) (.is (.a 0) 2) (.ne (.a 0) 2) (by kernel_rfl) (by kernel_rfl) h
  (fun h => inSeven2 val h)
  (fun h => by_way (.eq (.c 4) (.a 0)) (.is (.a 0) 4) (.ne (.a 0) 4) (by kernel_rfl) (by kernel_rfl) h
  (fun h => inSeven3 val h)
  (fun h => by_way (.eq (.c 8) (.a 0)) (.is (.a 0) 8) (.ne (.a 0) 8) (by kernel_rfl) (by kernel_rfl) h
  (fun h => inSeven4 val h)
  (fun h => by_way (.eq (.c 16) (.a 0)) (.is (.a 0) 16) (.ne (.a 0) 16) (by kernel_rfl) (by kernel_rfl) h
  (fun h => inSeven5 val h)
  (fun h => by_way (.eq (.c 32) (.a 0)) (.is (.a 0) 32) (.ne (.a 0) 32) (by kernel_rfl) (by kernel_rfl) h
  (fun h => inSeven6 val h)
  (fun h => inSeven7 val h)))))))

end Go.Proofs.Ytlegmdfceifkcaa.Tab
