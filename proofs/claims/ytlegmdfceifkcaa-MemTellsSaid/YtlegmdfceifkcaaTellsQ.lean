/-
  All ways together.
-/
import Derived.Test.YtlegmdfceifkcaaTellsQ0
namespace Go.Proofs.Ytlegmdfceifkcaa.Tab
open Go.Sim
set_option maxRecDepth 100000


theorem tellsQ (val : Nat → Int) : TellsQ val :=
  have h : Holds val [] := holds_nil
  by_way (.eq (.a 21) (.c 0)) (.is (.a 21) 0) (.ne (.a 21) 0) (by kernel_rfl) (by kernel_rfl) h
  (fun h => by_way (.eq (.a 29) (.c 0)) (.is (.a 29) 0) (.ne (.a 29) 0) (by kernel_rfl) (by kernel_rfl) h
  (fun h => by_way (.eq (.a 14) (.a 22)) (.at (.eq (.a 14) (.a 22)) true) (.at (.eq (.a 14) (.a 22)) false) (by kernel_rfl) (by kernel_rfl) h
  (fun h => by_way (.eq (.a 15) (.a 23)) (.at (.eq (.a 15) (.a 23)) true) (.at (.eq (.a 15) (.a 23)) false) (by kernel_rfl) (by kernel_rfl) h
  (fun h => by_way (.eq (.a 16) (.a 24)) (.at (.eq (.a 16) (.a 24)) true) (.at (.eq (.a 16) (.a 24)) false) (by kernel_rfl) (by kernel_rfl) h
  (fun h => by_way (.eq (.a 17) (.a 25)) (.at (.eq (.a 17) (.a 25)) true) (.at (.eq (.a 17) (.a 25)) false) (by kernel_rfl) (by kernel_rfl) h
  (fun h => by_way (.eq (.a 18) (.a 26)) (.at (.eq (.a 18) (.a 26)) true) (.at (.eq (.a 18) (.a 26)) false) (by kernel_rfl) (by kernel_rfl) h
  (fun h => by_way (.eq (.a 19) (.a 27)) (.at (.eq (.a 19) (.a 27)) true) (.at (.eq (.a 19) (.a 27)) false) (by kernel_rfl) (by kernel_rfl) h
  (fun h => by_way (.eq (.a 20) (.a 28)) (.at (.eq (.a 20) (.a 28)) true) (.at (.eq (.a 20) (.a 28)) false) (by kernel_rfl) (by kernel_rfl) h
  (fun h => tellsQ0 val h)
  (fun h => tellsQ1 val h))
  (fun h => tellsQ2 val h))
  (fun h => tellsQ3 val h))
  (fun h => tellsQ4 val h))
  (fun h => tellsQ5 val h))
  (fun h => tellsQ6 val h))
  (fun h => tellsQ7 val h))
  (fun h => tellsQ8 val h))
  (fun h => tellsQ9 val h)

end Go.Proofs.Ytlegmdfceifkcaa.Tab
