/-
  All ways together.
-/
import Derived.Test.YtclhjdddakmafaaTellsQ0
namespace Go.Proofs.Ytclhjdddakmafaa.Tab
open Go.Sim
set_option maxRecDepth 100000

theorem tellsQSub0 (val : Nat → Int) (h : Holds val [.is (.a 33) 0]) : TellsQ val :=
  by_way (.eq (.a 46) (.c 0)) (.is (.a 46) 0) (.ne (.a 46) 0) (by kernel_rfl) (by kernel_rfl) h
  (fun h => by_way (.eq (.a 22) (.a 35)) (.at (.eq (.a 22) (.a 35)) true) (.at (.eq (.a 22) (.a 35)) false) (by kernel_rfl) (by kernel_rfl) h
  (fun h => by_way (.eq (.a 23) (.a 36)) (.at (.eq (.a 23) (.a 36)) true) (.at (.eq (.a 23) (.a 36)) false) (by kernel_rfl) (by kernel_rfl) h
  (fun h => by_way (.eq (.a 24) (.a 37)) (.at (.eq (.a 24) (.a 37)) true) (.at (.eq (.a 24) (.a 37)) false) (by kernel_rfl) (by kernel_rfl) h
  (fun h => by_way (.eq (.a 25) (.a 38)) (.at (.eq (.a 25) (.a 38)) true) (.at (.eq (.a 25) (.a 38)) false) (by kernel_rfl) (by kernel_rfl) h
  (fun h => by_way (.eq (.a 26) (.a 39)) (.at (.eq (.a 26) (.a 39)) true) (.at (.eq (.a 26) (.a 39)) false) (by kernel_rfl) (by kernel_rfl) h
  (fun h => by_way (.eq (.a 27) (.a 40)) (.at (.eq (.a 27) (.a 40)) true) (.at (.eq (.a 27) (.a 40)) false) (by kernel_rfl) (by kernel_rfl) h
  (fun h => by_way (.eq (.a 28) (.a 41)) (.at (.eq (.a 28) (.a 41)) true) (.at (.eq (.a 28) (.a 41)) false) (by kernel_rfl) (by kernel_rfl) h
  (fun h => by_way (.eq (.a 29) (.a 42)) (.at (.eq (.a 29) (.a 42)) true) (.at (.eq (.a 29) (.a 42)) false) (by kernel_rfl) (by kernel_rfl) h
  (fun h => by_way (.eq (.a 30) (.a 43)) (.at (.eq (.a 30) (.a 43)) true) (.at (.eq (.a 30) (.a 43)) false) (by kernel_rfl) (by kernel_rfl) h
  (fun h => by_way (.eq (.a 31) (.a 44)) (.at (.eq (.a 31) (.a 44)) true) (.at (.eq (.a 31) (.a 44)) false) (by kernel_rfl) (by kernel_rfl) h
  (fun h => by_way (.eq (.a 32) (.a 45)) (.at (.eq (.a 32) (.a 45)) true) (.at (.eq (.a 32) (.a 45)) false) (by kernel_rfl) (by kernel_rfl) h
  (fun h => tellsQ0 val h)
  (fun h => tellsQ1 val h))
  (fun h => tellsQ2 val h))
  (fun h => tellsQ3 val h))
  (fun h => tellsQ4 val h))
  (fun h => tellsQ5 val h))
  (fun h => tellsQ6 val h))
  (fun h => tellsQ7 val h))
  (fun h => tellsQ8 val h))
  (fun h => tellsQ9 val h))
  (fun h => tellsQ10 val h))
  (fun h => tellsQ11 val h))
  (fun h => tellsQ12 val h)

theorem tellsQ (val : Nat → Int) : TellsQ val :=
  have h : Holds val [] := holds_nil
  by_way (.eq (.a 33) (.c 0)) (.is (.a 33) 0) (.ne (.a 33) 0) (by kernel_rfl) (by kernel_rfl) h
  (fun h => tellsQSub0 val h)
  (fun h => tellsQ13 val h)

end Go.Proofs.Ytclhjdddakmafaa.Tab
