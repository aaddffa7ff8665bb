/-
  Ways through the code, part 0.
-/
import Derived.Test.YtlegmdfceifkcaaTellsQH
namespace Go.Proofs.Ytlegmdfceifkcaa.Tab
open Go.Sim
set_option maxRecDepth 100000

theorem tellsQ0 (val : Nat → Int) (h : Holds val [.at (.eq (.a 20) (.a 28)) true, .at (.eq (.a 19) (.a 27)) true, .at (.eq (.a 18) (.a 26)) true, .at (.eq (.a 17) (.a 25)) true, .at (.eq (.a 16) (.a 24)) true, .at (.eq (.a 15) (.a 23)) true, .at (.eq (.a 14) (.a 22)) true, .is (.a 29) 0, .is (.a 21) 0]) : TellsQ val :=
  tellsLeaf h (by kernel_rfl)

theorem tellsQ1 (val : Nat → Int) (h : Holds val [.at (.eq (.a 20) (.a 28)) false, .at (.eq (.a 19) (.a 27)) true, .at (.eq (.a 18) (.a 26)) true, .at (.eq (.a 17) (.a 25)) true, .at (.eq (.a 16) (.a 24)) true, .at (.eq (.a 15) (.a 23)) true, .at (.eq (.a 14) (.a 22)) true, .is (.a 29) 0, .is (.a 21) 0]) : TellsQ val :=
  tellsLeaf h (by kernel_rfl)

theorem tellsQ2 (val : Nat → Int) (h : Holds val [.at (.eq (.a 19) (.a 27)) false, .at (.eq (.a 18) (.a 26)) true, .at (.eq (.a 17) (.a 25)) true, .at (.eq (.a 16) (.a 24)) true, .at (.eq (.a 15) (.a 23)) true, .at (.eq (.a 14) (.a 22)) true, .is (.a 29) 0, .is (.a 21) 0]) : TellsQ val :=
  tellsLeaf h (by kernel_rfl)

theorem tellsQ3 (val : Nat → Int) (h : Holds val [.at (.eq (.a 18) (.a 26)) false, .at (.eq (.a 17) (.a 25)) true, .at (.eq (.a 16) (.a 24)) true, .at (.eq (.a 15) (.a 23)) true, .at (.eq (.a 14) (.a 22)) true, .is (.a 29) 0, .is (.a 21) 0]) : TellsQ val :=
  tellsLeaf h (by kernel_rfl)

theorem tellsQ4 (val : Nat → Int) (h : Holds val [.at (.eq (.a 17) (.a 25)) false, .at (.eq (.a 16) (.a 24)) true, .at (.eq (.a 15) (.a 23)) true, .at (.eq (.a 14) (.a 22)) true, .is (.a 29) 0, .is (.a 21) 0]) : TellsQ val :=
  tellsLeaf h (by kernel_rfl)

theorem tellsQ5 (val : Nat → Int) (h : Holds val [.at (.eq (.a 16) (.a 24)) false, .at (.eq (.a 15) (.a 23)) true, .at (.eq (.a 14) (.a 22)) true, .is (.a 29) 0, .is (.a 21) 0]) : TellsQ val :=
  tellsLeaf h (by kernel_rfl)

theorem tellsQ6 (val : Nat → Int) (h : Holds val [.at (.eq (.a 15) (.a 23)) false, .at (.eq (.a 14) (.a 22)) true, .is (.a 29) 0, .is (.a 21) 0]) : TellsQ val :=
  tellsLeaf h (by kernel_rfl)

theorem tellsQ7 (val : Nat → Int) (h : Holds val [.at (.eq (.a 14) (.a 22)) false, .is (.a 29) 0, .is (.a 21) 0]) : TellsQ val :=
  tellsLeaf h (by kernel_rfl)

theorem tellsQ8 (val : Nat → Int) (h : Holds val [.ne (.a 29) 0, .is (.a 21) 0]) : TellsQ val :=
  tellsLeaf h (by kernel_rfl)

theorem tellsQ9 (val : Nat → Int) (h : Holds val [.ne (.a 21) 0]) : TellsQ val :=
  tellsLeaf h (by kernel_rfl)

end Go.Proofs.Ytlegmdfceifkcaa.Tab
