/-
  Ways through the code, part 0.
-/
import Derived.Test.YtclhjdddakmafaaTellsQH
namespace Go.Proofs.Ytclhjdddakmafaa.Tab
open Go.Sim
set_option maxRecDepth 100000

theorem tellsQ0 (val : Nat → Int) (h : Holds val [.at (.eq (.a 32) (.a 45)) true, .at (.eq (.a 31) (.a 44)) true, .at (.eq (.a 30) (.a 43)) true, .at (.eq (.a 29) (.a 42)) true, .at (.eq (.a 28) (.a 41)) true, .at (.eq (.a 27) (.a 40)) true, .at (.eq (.a 26) (.a 39)) true, .at (.eq (.a 25) (.a 38)) true, .at (.eq (.a 24) (.a 37)) true, .at (.eq (.a 23) (.a 36)) true, .at (.eq (.a 22) (.a 35)) true, .is (.a 46) 0, .is (.a 33) 0]) : TellsQ val :=
  tellsLeaf h (by kernel_rfl)

theorem tellsQ1 (val : Nat → Int) (h : Holds val [.at (.eq (.a 32) (.a 45)) false, .at (.eq (.a 31) (.a 44)) true, .at (.eq (.a 30) (.a 43)) true, .at (.eq (.a 29) (.a 42)) true, .at (.eq (.a 28) (.a 41)) true, .at (.eq (.a 27) (.a 40)) true, .at (.eq (.a 26) (.a 39)) true, .at (.eq (.a 25) (.a 38)) true, .at (.eq (.a 24) (.a 37)) true, .at (.eq (.a 23) (.a 36)) true, .at (.eq (.a 22) (.a 35)) true, .is (.a 46) 0, .is (.a 33) 0]) : TellsQ val :=
  tellsLeaf h (by kernel_rfl)

theorem tellsQ2 (val : Nat → Int) (h : Holds val [.at (.eq (.a 31) (.a 44)) false, .at (.eq (.a 30) (.a 43)) true, .at (.eq (.a 29) (.a 42)) true, .at (.eq (.a 28) (.a 41)) true, .at (.eq (.a 27) (.a 40)) true, .at (.eq (.a 26) (.a 39)) true, .at (.eq (.a 25) (.a 38)) true, .at (.eq (.a 24) (.a 37)) true, .at (.eq (.a 23) (.a 36)) true, .at (.eq (.a 22) (.a 35)) true, .is (.a 46) 0, .is (.a 33) 0]) : TellsQ val :=
  tellsLeaf h (by kernel_rfl)

theorem tellsQ3 (val : Nat → Int) (h : Holds val [.at (.eq (.a 30) (.a 43)) false, .at (.eq (.a 29) (.a 42)) true, .at (.eq (.a 28) (.a 41)) true, .at (.eq (.a 27) (.a 40)) true, .at (.eq (.a 26) (.a 39)) true, .at (.eq (.a 25) (.a 38)) true, .at (.eq (.a 24) (.a 37)) true, .at (.eq (.a 23) (.a 36)) true, .at (.eq (.a 22) (.a 35)) true, .is (.a 46) 0, .is (.a 33) 0]) : TellsQ val :=
  tellsLeaf h (by kernel_rfl)

theorem tellsQ4 (val : Nat → Int) (h : Holds val [.at (.eq (.a 29) (.a 42)) false, .at (.eq (.a 28) (.a 41)) true, .at (.eq (.a 27) (.a 40)) true, .at (.eq (.a 26) (.a 39)) true, .at (.eq (.a 25) (.a 38)) true, .at (.eq (.a 24) (.a 37)) true, .at (.eq (.a 23) (.a 36)) true, .at (.eq (.a 22) (.a 35)) true, .is (.a 46) 0, .is (.a 33) 0]) : TellsQ val :=
  tellsLeaf h (by kernel_rfl)

theorem tellsQ5 (val : Nat → Int) (h : Holds val [.at (.eq (.a 28) (.a 41)) false, .at (.eq (.a 27) (.a 40)) true, .at (.eq (.a 26) (.a 39)) true, .at (.eq (.a 25) (.a 38)) true, .at (.eq (.a 24) (.a 37)) true, .at (.eq (.a 23) (.a 36)) true, .at (.eq (.a 22) (.a 35)) true, .is (.a 46) 0, .is (.a 33) 0]) : TellsQ val :=
  tellsLeaf h (by kernel_rfl)

theorem tellsQ6 (val : Nat → Int) (h : Holds val [.at (.eq (.a 27) (.a 40)) false, .at (.eq (.a 26) (.a 39)) true, .at (.eq (.a 25) (.a 38)) true, .at (.eq (.a 24) (.a 37)) true, .at (.eq (.a 23) (.a 36)) true, .at (.eq (.a 22) (.a 35)) true, .is (.a 46) 0, .is (.a 33) 0]) : TellsQ val :=
  tellsLeaf h (by kernel_rfl)

theorem tellsQ7 (val : Nat → Int) (h : Holds val [.at (.eq (.a 26) (.a 39)) false, .at (.eq (.a 25) (.a 38)) true, .at (.eq (.a 24) (.a 37)) true, .at (.eq (.a 23) (.a 36)) true, .at (.eq (.a 22) (.a 35)) true, .is (.a 46) 0, .is (.a 33) 0]) : TellsQ val :=
  tellsLeaf h (by kernel_rfl)

theorem tellsQ8 (val : Nat → Int) (h : Holds val [.at (.eq (.a 25) (.a 38)) false, .at (.eq (.a 24) (.a 37)) true, .at (.eq (.a 23) (.a 36)) true, .at (.eq (.a 22) (.a 35)) true, .is (.a 46) 0, .is (.a 33) 0]) : TellsQ val :=
  tellsLeaf h (by kernel_rfl)

theorem tellsQ9 (val : Nat → Int) (h : Holds val [.at (.eq (.a 24) (.a 37)) false, .at (.eq (.a 23) (.a 36)) true, .at (.eq (.a 22) (.a 35)) true, .is (.a 46) 0, .is (.a 33) 0]) : TellsQ val :=
  tellsLeaf h (by kernel_rfl)

theorem tellsQ10 (val : Nat → Int) (h : Holds val [.at (.eq (.a 23) (.a 36)) false, .at (.eq (.a 22) (.a 35)) true, .is (.a 46) 0, .is (.a 33) 0]) : TellsQ val :=
  tellsLeaf h (by kernel_rfl)

theorem tellsQ11 (val : Nat → Int) (h : Holds val [.at (.eq (.a 22) (.a 35)) false, .is (.a 46) 0, .is (.a 33) 0]) : TellsQ val :=
  tellsLeaf h (by kernel_rfl)

theorem tellsQ12 (val : Nat → Int) (h : Holds val [.ne (.a 46) 0, .is (.a 33) 0]) : TellsQ val :=
  tellsLeaf h (by kernel_rfl)

theorem tellsQ13 (val : Nat → Int) (h : Holds val [.ne (.a 33) 0]) : TellsQ val :=
  tellsLeaf h (by kernel_rfl)

end Go.Proofs.Ytclhjdddakmafaa.Tab
