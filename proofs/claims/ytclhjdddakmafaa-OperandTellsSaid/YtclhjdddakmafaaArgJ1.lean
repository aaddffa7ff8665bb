/-
  Ways through the code, part 1.
-/
import Derived.Test.YtclhjdddakmafaaArgJH
namespace Go.Proofs.Ytclhjdddakmafaa.Tab
open Go.Sim
set_option maxRecDepth 100000

theorem argJ122 (val : Nat → Int) (h : Holds val [.ne (.a 3) 5, .ne (.a 3) 8, .ne (.a 3) 0, .is (.a 9) 1, .ne (.a 9) 0, .le (.a 8) 2147483647, .ge (.a 8) (-2147483648), .is (.a 0) 2, .ne (.a 0) 1]) : ArgJ val :=
  leaf h [(.c 0), (.c 0), (.c 0), (.c 0), (.c 0), (.c 0), (.c 0), (.c 0), (.c 0), (.c 0), (.c 0), (.c 2), (.c 0)] rfl (by kernel_rfl)

theorem argJ123 (val : Nat → Int) (h : Holds val [.is (.a 7) 0, .is (.a 6) 0, .is (.a 5) 0, .is (.a 4) 0, .is (.a 3) 0, .is (.a 9) 2, .ne (.a 9) 1, .ne (.a 9) 0, .le (.a 8) 2147483647, .ge (.a 8) (-2147483648), .is (.a 0) 2, .ne (.a 0) 1]) : ArgJ val :=
  leaf h [(.a 0), (.c 0), (.c 0), (.a 3), (.a 4), (.a 5), (.a 6), (.a 7), (.a 8), (.a 9), (.c 0), (.c 0), (.a 9)] rfl (by kernel_rfl)

theorem argJ124 (val : Nat → Int) (h : Holds val [.ne (.a 7) 0, .is (.a 6) 0, .is (.a 5) 0, .is (.a 4) 0, .is (.a 3) 0, .is (.a 9) 2, .ne (.a 9) 1, .ne (.a 9) 0, .le (.a 8) 2147483647, .ge (.a 8) (-2147483648), .is (.a 0) 2, .ne (.a 0) 1]) : ArgJ val :=
  leaf h [(.c 0), (.c 0), (.c 0), (.c 0), (.c 0), (.c 0), (.c 0), (.c 0), (.c 0), (.c 0), (.c 0), (.c 2), (.c 0)] rfl (by kernel_rfl)

theorem argJ125 (val : Nat → Int) (h : Holds val [.ne (.a 6) 0, .is (.a 5) 0, .is (.a 4) 0, .is (.a 3) 0, .is (.a 9) 2, .ne (.a 9) 1, .ne (.a 9) 0, .le (.a 8) 2147483647, .ge (.a 8) (-2147483648), .is (.a 0) 2, .ne (.a 0) 1]) : ArgJ val :=
  leaf h [(.c 0), (.c 0), (.c 0), (.c 0), (.c 0), (.c 0), (.c 0), (.c 0), (.c 0), (.c 0), (.c 0), (.c 2), (.c 0)] rfl (by kernel_rfl)

theorem argJ126 (val : Nat → Int) (h : Holds val [.is (.a 6) 4, .is (.a 7) 1, .le (.a 6) 15, .ge (.a 6) 0, .is (.a 5) 5, .ne (.a 5) 0, .is (.a 4) 0, .is (.a 3) 0, .is (.a 9) 2, .ne (.a 9) 1, .ne (.a 9) 0, .le (.a 8) 2147483647, .ge (.a 8) (-2147483648), .is (.a 0) 2, .ne (.a 0) 1]) : ArgJ val :=
  leaf h [(.a 0), (.c 0), (.c 0), (.a 5), (.a 6), (.c 0), (.c 0), (.c 0), (.a 8), (.a 9), (.c 0), (.c 0), (.a 9)] rfl (by kernel_rfl)

theorem argJ127 (val : Nat → Int) (h : Holds val [.ne (.a 6) 4, .is (.a 7) 1, .le (.a 6) 15, .ge (.a 6) 0, .is (.a 5) 5, .ne (.a 5) 0, .is (.a 4) 0, .is (.a 3) 0, .is (.a 9) 2, .ne (.a 9) 1, .ne (.a 9) 0, .le (.a 8) 2147483647, .ge (.a 8) (-2147483648), .is (.a 0) 2, .ne (.a 0) 1]) : ArgJ val :=
  leaf h [(.a 0), (.c 0), (.c 0), (.a 5), (.a 6), (.c 0), (.c 0), (.c 0), (.a 8), (.a 9), (.c 0), (.c 0), (.a 9)] rfl (by kernel_rfl)

theorem argJ128 (val : Nat → Int) (h : Holds val [.is (.a 6) 4, .is (.a 7) 2, .ne (.a 7) 1, .le (.a 6) 15, .ge (.a 6) 0, .is (.a 5) 5, .ne (.a 5) 0, .is (.a 4) 0, .is (.a 3) 0, .is (.a 9) 2, .ne (.a 9) 1, .ne (.a 9) 0, .le (.a 8) 2147483647, .ge (.a 8) (-2147483648), .is (.a 0) 2, .ne (.a 0) 1]) : ArgJ val :=
  leaf h [(.c 0), (.c 0), (.c 0), (.c 0), (.c 0), (.c 0), (.c 0), (.c 0), (.c 0), (.c 0), (.c 0), (.c 2), (.c 0)] rfl (by kernel_rfl)

theorem argJ129 (val : Nat → Int) (h : Holds val [.ne (.a 6) 4, .is (.a 7) 2, .ne (.a 7) 1, .le (.a 6) 15, .ge (.a 6) 0, .is (.a 5) 5, .ne (.a 5) 0, .is (.a 4) 0, .is (.a 3) 0, .is (.a 9) 2, .ne (.a 9) 1, .ne (.a 9) 0, .le (.a 8) 2147483647, .ge (.a 8) (-2147483648), .is (.a 0) 2, .ne (.a 0) 1]) : ArgJ val :=
  leaf h [(.a 0), (.c 0), (.c 0), (.a 3), (.a 4), (.a 5), (.a 6), (.a 7), (.a 8), (.a 9), (.c 0), (.c 0), (.a 9)] rfl (by kernel_rfl)

theorem argJ130 (val : Nat → Int) (h : Holds val [.is (.a 6) 4, .is (.a 7) 4, .ne (.a 7) 2, .ne (.a 7) 1, .le (.a 6) 15, .ge (.a 6) 0, .is (.a 5) 5, .ne (.a 5) 0, .is (.a 4) 0, .is (.a 3) 0, .is (.a 9) 2, .ne (.a 9) 1, .ne (.a 9) 0, .le (.a 8) 2147483647, .ge (.a 8) (-2147483648), .is (.a 0) 2, .ne (.a 0) 1]) : ArgJ val :=
  leaf h [(.c 0), (.c 0), (.c 0), (.c 0), (.c 0), (.c 0), (.c 0), (.c 0), (.c 0), (.c 0), (.c 0), (.c 2), (.c 0)] rfl (by kernel_rfl)

theorem argJ131 (val : Nat → Int) (h : Holds val [.ne (.a 6) 4, .is (.a 7) 4, .ne (.a 7) 2, .ne (.a 7) 1, .le (.a 6) 15, .ge (.a 6) 0, .is (.a 5) 5, .ne (.a 5) 0, .is (.a 4) 0, .is (.a 3) 0, .is (.a 9) 2, .ne (.a 9) 1, .ne (.a 9) 0, .le (.a 8) 2147483647, .ge (.a 8) (-2147483648), .is (.a 0) 2, .ne (.a 0) 1]) : ArgJ val :=
  leaf h [(.a 0), (.c 0), (.c 0), (.a 3), (.a 4), (.a 5), (.a 6), (.a 7), (.a 8), (.a 9), (.c 0), (.c 0), (.a 9)] rfl (by kernel_rfl)

theorem argJ132 (val : Nat → Int) (h : Holds val [.is (.a 6) 4, .is (.a 7) 8, .ne (.a 7) 4, .ne (.a 7) 2, .ne (.a 7) 1, .le (.a 6) 15, .ge (.a 6) 0, .is (.a 5) 5, .ne (.a 5) 0, .is (.a 4) 0, .is (.a 3) 0, .is (.a 9) 2, .ne (.a 9) 1, .ne (.a 9) 0, .le (.a 8) 2147483647, .ge (.a 8) (-2147483648), .is (.a 0) 2, .ne (.a 0) 1]) : ArgJ val :=
  leaf h [(.c 0), (.c 0), (.c 0), (.c 0), (.c 0), (.c 0), (.c 0), (.c 0), (.c 0), (.c 0), (.c 0), (.c 2), (.c 0)] rfl (by kernel_rfl)

theorem argJ133 (val : Nat → Int) (h : Holds val [.ne (.a 6) 4, .is (.a 7) 8, .ne (.a 7) 4, .ne (.a 7) 2, .ne (.a 7) 1, .le (.a 6) 15, .ge (.a 6) 0, .is (.a 5) 5, .ne (.a 5) 0, .is (.a 4) 0, .is (.a 3) 0, .is (.a 9) 2, .ne (.a 9) 1, .ne (.a 9) 0, .le (.a 8) 2147483647, .ge (.a 8) (-2147483648), .is (.a 0) 2, .ne (.a 0) 1]) : ArgJ val :=
  leaf h [(.a 0), (.c 0), (.c 0), (.a 3), (.a 4), (.a 5), (.a 6), (.a 7), (.a 8), (.a 9), (.c 0), (.c 0), (.a 9)] rfl (by kernel_rfl)

theorem argJ134 (val : Nat → Int) (h : Holds val [.ne (.a 7) 8, .ne (.a 7) 4, .ne (.a 7) 2, .ne (.a 7) 1, .le (.a 6) 15, .ge (.a 6) 0, .is (.a 5) 5, .ne (.a 5) 0, .is (.a 4) 0, .is (.a 3) 0, .is (.a 9) 2, .ne (.a 9) 1, .ne (.a 9) 0, .le (.a 8) 2147483647, .ge (.a 8) (-2147483648), .is (.a 0) 2, .ne (.a 0) 1]) : ArgJ val :=
  leaf h [(.c 0), (.c 0), (.c 0), (.c 0), (.c 0), (.c 0), (.c 0), (.c 0), (.c 0), (.c 0), (.c 0), (.c 2), (.c 0)] rfl (by kernel_rfl)

theorem argJ135 (val : Nat → Int) (h : Holds val [.ge (.a 6) 16, .ge (.a 6) 0, .is (.a 5) 5, .ne (.a 5) 0, .is (.a 4) 0, .is (.a 3) 0, .is (.a 9) 2, .ne (.a 9) 1, .ne (.a 9) 0, .le (.a 8) 2147483647, .ge (.a 8) (-2147483648), .is (.a 0) 2, .ne (.a 0) 1]) : ArgJ val :=
  leaf h [(.c 0), (.c 0), (.c 0), (.c 0), (.c 0), (.c 0), (.c 0), (.c 0), (.c 0), (.c 0), (.c 0), (.c 2), (.c 0)] rfl (by kernel_rfl)

theorem argJ136 (val : Nat → Int) (h : Holds val [.le (.a 6) (-1), .is (.a 5) 5, .ne (.a 5) 0, .is (.a 4) 0, .is (.a 3) 0, .is (.a 9) 2, .ne (.a 9) 1, .ne (.a 9) 0, .le (.a 8) 2147483647, .ge (.a 8) (-2147483648), .is (.a 0) 2, .ne (.a 0) 1]) : ArgJ val :=
  leaf h [(.c 0), (.c 0), (.c 0), (.c 0), (.c 0), (.c 0), (.c 0), (.c 0), (.c 0), (.c 0), (.c 0), (.c 2), (.c 0)] rfl (by kernel_rfl)

theorem argJ137 (val : Nat → Int) (h : Holds val [.ne (.a 5) 5, .ne (.a 5) 0, .is (.a 4) 0, .is (.a 3) 0, .is (.a 9) 2, .ne (.a 9) 1, .ne (.a 9) 0, .le (.a 8) 2147483647, .ge (.a 8) (-2147483648), .is (.a 0) 2, .ne (.a 0) 1]) : ArgJ val :=
  leaf h [(.c 0), (.c 0), (.c 0), (.c 0), (.c 0), (.c 0), (.c 0), (.c 0), (.c 0), (.c 0), (.c 0), (.c 2), (.c 0)] rfl (by kernel_rfl)

theorem argJ138 (val : Nat → Int) (h : Holds val [.ne (.a 4) 0, .is (.a 3) 0, .is (.a 9) 2, .ne (.a 9) 1, .ne (.a 9) 0, .le (.a 8) 2147483647, .ge (.a 8) (-2147483648), .is (.a 0) 2, .ne (.a 0) 1]) : ArgJ val :=
  leaf h [(.c 0), (.c 0), (.c 0), (.c 0), (.c 0), (.c 0), (.c 0), (.c 0), (.c 0), (.c 0), (.c 0), (.c 2), (.c 0)] rfl (by kernel_rfl)

theorem argJ139 (val : Nat → Int) (h : Holds val [.is (.a 7) 0, .is (.a 6) 0, .is (.a 5) 0, .is (.a 4) 0, .is (.a 3) 8, .ne (.a 3) 0, .is (.a 9) 2, .ne (.a 9) 1, .ne (.a 9) 0, .le (.a 8) 2147483647, .ge (.a 8) (-2147483648), .is (.a 0) 2, .ne (.a 0) 1]) : ArgJ val :=
  leaf h [(.a 0), (.c 0), (.c 0), (.a 3), (.a 4), (.a 5), (.a 6), (.a 7), (.a 8), (.a 9), (.c 0), (.c 0), (.a 9)] rfl (by kernel_rfl)

theorem argJ140 (val : Nat → Int) (h : Holds val [.ne (.a 7) 0, .is (.a 6) 0, .is (.a 5) 0, .is (.a 4) 0, .is (.a 3) 8, .ne (.a 3) 0, .is (.a 9) 2, .ne (.a 9) 1, .ne (.a 9) 0, .le (.a 8) 2147483647, .ge (.a 8) (-2147483648), .is (.a 0) 2, .ne (.a 0) 1]) : ArgJ val :=
  leaf h [(.c 0), (.c 0), (.c 0), (.c 0), (.c 0), (.c 0), (.c 0), (.c 0), (.c 0), (.c 0), (.c 0), (.c 2), (.c 0)] rfl (by kernel_rfl)

theorem argJ141 (val : Nat → Int) (h : Holds val [.ne (.a 6) 0, .is (.a 5) 0, .is (.a 4) 0, .is (.a 3) 8, .ne (.a 3) 0, .is (.a 9) 2, .ne (.a 9) 1, .ne (.a 9) 0, .le (.a 8) 2147483647, .ge (.a 8) (-2147483648), .is (.a 0) 2, .ne (.a 0) 1]) : ArgJ val :=
  leaf h [(.c 0), (.c 0), (.c 0), (.c 0), (.c 0), (.c 0), (.c 0), (.c 0), (.c 0), (.c 0), (.c 0), (.c 2), (.c 0)] rfl (by kernel_rfl)

theorem argJ142 (val : Nat → Int) (h : Holds val [.is (.a 7) 1, .le (.a 6) 15, .ge (.a 6) 0, .is (.a 5) 5, .ne (.a 5) 0, .is (.a 4) 0, .is (.a 3) 8, .ne (.a 3) 0, .is (.a 9) 2, .ne (.a 9) 1, .ne (.a 9) 0, .le (.a 8) 2147483647, .ge (.a 8) (-2147483648), .is (.a 0) 2, .ne (.a 0) 1]) : ArgJ val :=
  leaf h [(.c 0), (.c 0), (.c 0), (.c 0), (.c 0), (.c 0), (.c 0), (.c 0), (.c 0), (.c 0), (.c 0), (.c 2), (.c 0)] rfl (by kernel_rfl)

theorem argJ143 (val : Nat → Int) (h : Holds val [.is (.a 7) 2, .ne (.a 7) 1, .le (.a 6) 15, .ge (.a 6) 0, .is (.a 5) 5, .ne (.a 5) 0, .is (.a 4) 0, .is (.a 3) 8, .ne (.a 3) 0, .is (.a 9) 2, .ne (.a 9) 1, .ne (.a 9) 0, .le (.a 8) 2147483647, .ge (.a 8) (-2147483648), .is (.a 0) 2, .ne (.a 0) 1]) : ArgJ val :=
  leaf h [(.c 0), (.c 0), (.c 0), (.c 0), (.c 0), (.c 0), (.c 0), (.c 0), (.c 0), (.c 0), (.c 0), (.c 2), (.c 0)] rfl (by kernel_rfl)

theorem argJ144 (val : Nat → Int) (h : Holds val [.is (.a 7) 4, .ne (.a 7) 2, .ne (.a 7) 1, .le (.a 6) 15, .ge (.a 6) 0, .is (.a 5) 5, .ne (.a 5) 0, .is (.a 4) 0, .is (.a 3) 8, .ne (.a 3) 0, .is (.a 9) 2, .ne (.a 9) 1, .ne (.a 9) 0, .le (.a 8) 2147483647, .ge (.a 8) (-2147483648), .is (.a 0) 2, .ne (.a 0) 1]) : ArgJ val :=
  leaf h [(.c 0), (.c 0), (.c 0), (.c 0), (.c 0), (.c 0), (.c 0), (.c 0), (.c 0), (.c 0), (.c 0), (.c 2), (.c 0)] rfl (by kernel_rfl)

theorem argJ145 (val : Nat → Int) (h : Holds val [.is (.a 7) 8, .ne (.a 7) 4, .ne (.a 7) 2, .ne (.a 7) 1, .le (.a 6) 15, .ge (.a 6) 0, .is (.a 5) 5, .ne (.a 5) 0, .is (.a 4) 0, .is (.a 3) 8, .ne (.a 3) 0, .is (.a 9) 2, .ne (.a 9) 1, .ne (.a 9) 0, .le (.a 8) 2147483647, .ge (.a 8) (-2147483648), .is (.a 0) 2, .ne (.a 0) 1]) : ArgJ val :=
  leaf h [(.c 0), (.c 0), (.c 0), (.c 0), (.c 0), (.c 0), (.c 0), (.c 0), (.c 0), (.c 0), (.c 0), (.c 2), (.c 0)] rfl (by kernel_rfl)

theorem argJ146 (val : Nat → Int) (h : Holds val [.ne (.a 7) 8, .ne (.a 7) 4, .ne (.a 7) 2, .ne (.a 7) 1, .le (.a 6) 15, .ge (.a 6) 0, .is (.a 5) 5, .ne (.a 5) 0, .is (.a 4) 0, .is (.a 3) 8, .ne (.a 3) 0, .is (.a 9) 2, .ne (.a 9) 1, .ne (.a 9) 0, .le (.a 8) 2147483647, .ge (.a 8) (-2147483648), .is (.a 0) 2, .ne (.a 0) 1]) : ArgJ val :=
  leaf h [(.c 0), (.c 0), (.c 0), (.c 0), (.c 0), (.c 0), (.c 0), (.c 0), (.c 0), (.c 0), (.c 0), (.c 2), (.c 0)] rfl (by kernel_rfl)

theorem argJ147 (val : Nat → Int) (h : Holds val [.ge (.a 6) 16, .ge (.a 6) 0, .is (.a 5) 5, .ne (.a 5) 0, .is (.a 4) 0, .is (.a 3) 8, .ne (.a 3) 0, .is (.a 9) 2, .ne (.a 9) 1, .ne (.a 9) 0, .le (.a 8) 2147483647, .ge (.a 8) (-2147483648), .is (.a 0) 2, .ne (.a 0) 1]) : ArgJ val :=
  leaf h [(.c 0), (.c 0), (.c 0), (.c 0), (.c 0), (.c 0), (.c 0), (.c 0), (.c 0), (.c 0), (.c 0), (.c 2), (.c 0)] rfl (by kernel_rfl)

theorem argJ148 (val : Nat → Int) (h : Holds val [.le (.a 6) (-1), .is (.a 5) 5, .ne (.a 5) 0, .is (.a 4) 0, .is (.a 3) 8, .ne (.a 3) 0, .is (.a 9) 2, .ne (.a 9) 1, .ne (.a 9) 0, .le (.a 8) 2147483647, .ge (.a 8) (-2147483648), .is (.a 0) 2, .ne (.a 0) 1]) : ArgJ val :=
  leaf h [(.c 0), (.c 0), (.c 0), (.c 0), (.c 0), (.c 0), (.c 0), (.c 0), (.c 0), (.c 0), (.c 0), (.c 2), (.c 0)] rfl (by kernel_rfl)

theorem argJ149 (val : Nat → Int) (h : Holds val [.ne (.a 5) 5, .ne (.a 5) 0, .is (.a 4) 0, .is (.a 3) 8, .ne (.a 3) 0, .is (.a 9) 2, .ne (.a 9) 1, .ne (.a 9) 0, .le (.a 8) 2147483647, .ge (.a 8) (-2147483648), .is (.a 0) 2, .ne (.a 0) 1]) : ArgJ val :=
  leaf h [(.c 0), (.c 0), (.c 0), (.c 0), (.c 0), (.c 0), (.c 0), (.c 0), (.c 0), (.c 0), (.c 0), (.c 2), (.c 0)] rfl (by kernel_rfl)

theorem argJ150 (val : Nat → Int) (h : Holds val [.ne (.a 4) 0, .is (.a 3) 8, .ne (.a 3) 0, .is (.a 9) 2, .ne (.a 9) 1, .ne (.a 9) 0, .le (.a 8) 2147483647, .ge (.a 8) (-2147483648), .is (.a 0) 2, .ne (.a 0) 1]) : ArgJ val :=
  leaf h [(.c 0), (.c 0), (.c 0), (.c 0), (.c 0), (.c 0), (.c 0), (.c 0), (.c 0), (.c 0), (.c 0), (.c 2), (.c 0)] rfl (by kernel_rfl)

theorem argJ151 (val : Nat → Int) (h : Holds val [.is (.a 7) 0, .is (.a 6) 0, .is (.a 5) 0, .le (.a 4) 15, .ge (.a 4) 0, .is (.a 3) 5, .ne (.a 3) 8, .ne (.a 3) 0, .is (.a 9) 2, .ne (.a 9) 1, .ne (.a 9) 0, .le (.a 8) 2147483647, .ge (.a 8) (-2147483648), .is (.a 0) 2, .ne (.a 0) 1]) : ArgJ val :=
  leaf h [(.a 0), (.c 0), (.c 0), (.a 3), (.a 4), (.a 5), (.a 6), (.a 7), (.a 8), (.a 9), (.c 0), (.c 0), (.a 9)] rfl (by kernel_rfl)

theorem argJ152 (val : Nat → Int) (h : Holds val [.ne (.a 7) 0, .is (.a 6) 0, .is (.a 5) 0, .le (.a 4) 15, .ge (.a 4) 0, .is (.a 3) 5, .ne (.a 3) 8, .ne (.a 3) 0, .is (.a 9) 2, .ne (.a 9) 1, .ne (.a 9) 0, .le (.a 8) 2147483647, .ge (.a 8) (-2147483648), .is (.a 0) 2, .ne (.a 0) 1]) : ArgJ val :=
  leaf h [(.c 0), (.c 0), (.c 0), (.c 0), (.c 0), (.c 0), (.c 0), (.c 0), (.c 0), (.c 0), (.c 0), (.c 2), (.c 0)] rfl (by kernel_rfl)

theorem argJ153 (val : Nat → Int) (h : Holds val [.ne (.a 6) 0, .is (.a 5) 0, .le (.a 4) 15, .ge (.a 4) 0, .is (.a 3) 5, .ne (.a 3) 8, .ne (.a 3) 0, .is (.a 9) 2, .ne (.a 9) 1, .ne (.a 9) 0, .le (.a 8) 2147483647, .ge (.a 8) (-2147483648), .is (.a 0) 2, .ne (.a 0) 1]) : ArgJ val :=
  leaf h [(.c 0), (.c 0), (.c 0), (.c 0), (.c 0), (.c 0), (.c 0), (.c 0), (.c 0), (.c 0), (.c 0), (.c 2), (.c 0)] rfl (by kernel_rfl)

theorem argJ154 (val : Nat → Int) (h : Holds val [.is (.a 4) 4, .is (.a 6) 4, .is (.a 7) 1, .le (.a 6) 15, .ge (.a 6) 0, .is (.a 5) 5, .ne (.a 5) 0, .le (.a 4) 15, .ge (.a 4) 0, .is (.a 3) 5, .ne (.a 3) 8, .ne (.a 3) 0, .is (.a 9) 2, .ne (.a 9) 1, .ne (.a 9) 0, .le (.a 8) 2147483647, .ge (.a 8) (-2147483648), .is (.a 0) 2, .ne (.a 0) 1]) : ArgJ val :=
  leaf h [(.c 0), (.c 0), (.c 0), (.c 0), (.c 0), (.c 0), (.c 0), (.c 0), (.c 0), (.c 0), (.c 0), (.c 2), (.c 0)] rfl (by kernel_rfl)

theorem argJ155 (val : Nat → Int) (h : Holds val [.ne (.a 4) 4, .is (.a 6) 4, .is (.a 7) 1, .le (.a 6) 15, .ge (.a 6) 0, .is (.a 5) 5, .ne (.a 5) 0, .le (.a 4) 15, .ge (.a 4) 0, .is (.a 3) 5, .ne (.a 3) 8, .ne (.a 3) 0, .is (.a 9) 2, .ne (.a 9) 1, .ne (.a 9) 0, .le (.a 8) 2147483647, .ge (.a 8) (-2147483648), .is (.a 0) 2, .ne (.a 0) 1]) : ArgJ val :=
  leaf h [(.a 0), (.c 0), (.c 0), (.a 5), (.a 6), (.a 3), (.a 4), (.a 7), (.a 8), (.a 9), (.c 0), (.c 0), (.a 9)] rfl (by kernel_rfl)

theorem argJ156 (val : Nat → Int) (h : Holds val [.ne (.a 6) 4, .is (.a 7) 1, .le (.a 6) 15, .ge (.a 6) 0, .is (.a 5) 5, .ne (.a 5) 0, .le (.a 4) 15, .ge (.a 4) 0, .is (.a 3) 5, .ne (.a 3) 8, .ne (.a 3) 0, .is (.a 9) 2, .ne (.a 9) 1, .ne (.a 9) 0, .le (.a 8) 2147483647, .ge (.a 8) (-2147483648), .is (.a 0) 2, .ne (.a 0) 1]) : ArgJ val :=
  leaf h [(.a 0), (.c 0), (.c 0), (.a 3), (.a 4), (.a 5), (.a 6), (.a 7), (.a 8), (.a 9), (.c 0), (.c 0), (.a 9)] rfl (by kernel_rfl)

theorem argJ157 (val : Nat → Int) (h : Holds val [.is (.a 6) 4, .is (.a 7) 2, .ne (.a 7) 1, .le (.a 6) 15, .ge (.a 6) 0, .is (.a 5) 5, .ne (.a 5) 0, .le (.a 4) 15, .ge (.a 4) 0, .is (.a 3) 5, .ne (.a 3) 8, .ne (.a 3) 0, .is (.a 9) 2, .ne (.a 9) 1, .ne (.a 9) 0, .le (.a 8) 2147483647, .ge (.a 8) (-2147483648), .is (.a 0) 2, .ne (.a 0) 1]) : ArgJ val :=
  leaf h [(.c 0), (.c 0), (.c 0), (.c 0), (.c 0), (.c 0), (.c 0), (.c 0), (.c 0), (.c 0), (.c 0), (.c 2), (.c 0)] rfl (by kernel_rfl)

theorem argJ158 (val : Nat → Int) (h : Holds val [.ne (.a 6) 4, .is (.a 7) 2, .ne (.a 7) 1, .le (.a 6) 15, .ge (.a 6) 0, .is (.a 5) 5, .ne (.a 5) 0, .le (.a 4) 15, .ge (.a 4) 0, .is (.a 3) 5, .ne (.a 3) 8, .ne (.a 3) 0, .is (.a 9) 2, .ne (.a 9) 1, .ne (.a 9) 0, .le (.a 8) 2147483647, .ge (.a 8) (-2147483648), .is (.a 0) 2, .ne (.a 0) 1]) : ArgJ val :=
  leaf h [(.a 0), (.c 0), (.c 0), (.a 3), (.a 4), (.a 5), (.a 6), (.a 7), (.a 8), (.a 9), (.c 0), (.c 0), (.a 9)] rfl (by kernel_rfl)

theorem argJ159 (val : Nat → Int) (h : Holds val [.is (.a 6) 4, .is (.a 7) 4, .ne (.a 7) 2, .ne (.a 7) 1, .le (.a 6) 15, .ge (.a 6) 0, .is (.a 5) 5, .ne (.a 5) 0, .le (.a 4) 15, .ge (.a 4) 0, .is (.a 3) 5, .ne (.a 3) 8, .ne (.a 3) 0, .is (.a 9) 2, .ne (.a 9) 1, .ne (.a 9) 0, .le (.a 8) 2147483647, .ge (.a 8) (-2147483648), .is (.a 0) 2, .ne (.a 0) 1]) : ArgJ val :=
  leaf h [(.c 0), (.c 0), (.c 0), (.c 0), (.c 0), (.c 0), (.c 0), (.c 0), (.c 0), (.c 0), (.c 0), (.c 2), (.c 0)] rfl (by kernel_rfl)

theorem argJ160 (val : Nat → Int) (h : Holds val [.ne (.a 6) 4, .is (.a 7) 4, .ne (.a 7) 2, .ne (.a 7) 1, .le (.a 6) 15, .ge (.a 6) 0, .is (.a 5) 5, .ne (.a 5) 0, .le (.a 4) 15, .ge (.a 4) 0, .is (.a 3) 5, .ne (.a 3) 8, .ne (.a 3) 0, .is (.a 9) 2, .ne (.a 9) 1, .ne (.a 9) 0, .le (.a 8) 2147483647, .ge (.a 8) (-2147483648), .is (.a 0) 2, .ne (.a 0) 1]) : ArgJ val :=
  leaf h [(.a 0), (.c 0), (.c 0), (.a 3), (.a 4), (.a 5), (.a 6), (.a 7), (.a 8), (.a 9), (.c 0), (.c 0), (.a 9)] rfl (by kernel_rfl)

theorem argJ161 (val : Nat → Int) (h : Holds val [.is (.a 6) 4, .is (.a 7) 8, .ne (.a 7) 4, .ne (.a 7) 2, .ne (.a 7) 1, .le (.a 6) 15, .ge (.a 6) 0, .is (.a 5) 5, .ne (.a 5) 0, .le (.a 4) 15, .ge (.a 4) 0, .is (.a 3) 5, .ne (.a 3) 8, .ne (.a 3) 0, .is (.a 9) 2, .ne (.a 9) 1, .ne (.a 9) 0, .le (.a 8) 2147483647, .ge (.a 8) (-2147483648), .is (.a 0) 2, .ne (.a 0) 1]) : ArgJ val :=
  leaf h [(.c 0), (.c 0), (.c 0), (.c 0), (.c 0), (.c 0), (.c 0), (.c 0), (.c 0), (.c 0), (.c 0), (.c 2), (.c 0)] rfl (by kernel_rfl)

theorem argJ162 (val : Nat → Int) (h : Holds val [.ne (.a 6) 4, .is (.a 7) 8, .ne (.a 7) 4, .ne (.a 7) 2, .ne (.a 7) 1, .le (.a 6) 15, .ge (.a 6) 0, .is (.a 5) 5, .ne (.a 5) 0, .le (.a 4) 15, .ge (.a 4) 0, .is (.a 3) 5, .ne (.a 3) 8, .ne (.a 3) 0, .is (.a 9) 2, .ne (.a 9) 1, .ne (.a 9) 0, .le (.a 8) 2147483647, .ge (.a 8) (-2147483648), .is (.a 0) 2, .ne (.a 0) 1]) : ArgJ val :=
  leaf h [(.a 0), (.c 0), (.c 0), (.a 3), (.a 4), (.a 5), (.a 6), (.a 7), (.a 8), (.a 9), (.c 0), (.c 0), (.a 9)] rfl (by kernel_rfl)

theorem argJ163 (val : Nat → Int) (h : Holds val [.ne (.a 7) 8, .ne (.a 7) 4, .ne (.a 7) 2, .ne (.a 7) 1, .le (.a 6) 15, .ge (.a 6) 0, .is (.a 5) 5, .ne (.a 5) 0, .le (.a 4) 15, .ge (.a 4) 0, .is (.a 3) 5, .ne (.a 3) 8, .ne (.a 3) 0, .is (.a 9) 2, .ne (.a 9) 1, .ne (.a 9) 0, .le (.a 8) 2147483647, .ge (.a 8) (-2147483648), .is (.a 0) 2, .ne (.a 0) 1]) : ArgJ val :=
  leaf h [(.c 0), (.c 0), (.c 0), (.c 0), (.c 0), (.c 0), (.c 0), (.c 0), (.c 0), (.c 0), (.c 0), (.c 2), (.c 0)] rfl (by kernel_rfl)

theorem argJ164 (val : Nat → Int) (h : Holds val [.ge (.a 6) 16, .ge (.a 6) 0, .is (.a 5) 5, .ne (.a 5) 0, .le (.a 4) 15, .ge (.a 4) 0, .is (.a 3) 5, .ne (.a 3) 8, .ne (.a 3) 0, .is (.a 9) 2, .ne (.a 9) 1, .ne (.a 9) 0, .le (.a 8) 2147483647, .ge (.a 8) (-2147483648), .is (.a 0) 2, .ne (.a 0) 1]) : ArgJ val :=
  leaf h [(.c 0), (.c 0), (.c 0), (.c 0), (.c 0), (.c 0), (.c 0), (.c 0), (.c 0), (.c 0), (.c 0), (.c 2), (.c 0)] rfl (by kernel_rfl)

theorem argJ165 (val : Nat → Int) (h : Holds val [.le (.a 6) (-1), .is (.a 5) 5, .ne (.a 5) 0, .le (.a 4) 15, .ge (.a 4) 0, .is (.a 3) 5, .ne (.a 3) 8, .ne (.a 3) 0, .is (.a 9) 2, .ne (.a 9) 1, .ne (.a 9) 0, .le (.a 8) 2147483647, .ge (.a 8) (-2147483648), .is (.a 0) 2, .ne (.a 0) 1]) : ArgJ val :=
  leaf h [(.c 0), (.c 0), (.c 0), (.c 0), (.c 0), (.c 0), (.c 0), (.c 0), (.c 0), (.c 0), (.c 0), (.c 2), (.c 0)] rfl (by kernel_rfl)

theorem argJ166 (val : Nat → Int) (h : Holds val [.ne (.a 5) 5, .ne (.a 5) 0, .le (.a 4) 15, .ge (.a 4) 0, .is (.a 3) 5, .ne (.a 3) 8, .ne (.a 3) 0, .is (.a 9) 2, .ne (.a 9) 1, .ne (.a 9) 0, .le (.a 8) 2147483647, .ge (.a 8) (-2147483648), .is (.a 0) 2, .ne (.a 0) 1]) : ArgJ val :=
  leaf h [(.c 0), (.c 0), (.c 0), (.c 0), (.c 0), (.c 0), (.c 0), (.c 0), (.c 0), (.c 0), (.c 0), (.c 2), (.c 0)] rfl (by kernel_rfl)

theorem argJ167 (val : Nat → Int) (h : Holds val [.ge (.a 4) 16, .ge (.a 4) 0, .is (.a 3) 5, .ne (.a 3) 8, .ne (.a 3) 0, .is (.a 9) 2, .ne (.a 9) 1, .ne (.a 9) 0, .le (.a 8) 2147483647, .ge (.a 8) (-2147483648), .is (.a 0) 2, .ne (.a 0) 1]) : ArgJ val :=
  leaf h [(.c 0), (.c 0), (.c 0), (.c 0), (.c 0), (.c 0), (.c 0), (.c 0), (.c 0), (.c 0), (.c 0), (.c 2), (.c 0)] rfl (by kernel_rfl)

theorem argJ168 (val : Nat → Int) (h : Holds val [.le (.a 4) (-1), .is (.a 3) 5, .ne (.a 3) 8, .ne (.a 3) 0, .is (.a 9) 2, .ne (.a 9) 1, .ne (.a 9) 0, .le (.a 8) 2147483647, .ge (.a 8) (-2147483648), .is (.a 0) 2, .ne (.a 0) 1]) : ArgJ val :=
  leaf h [(.c 0), (.c 0), (.c 0), (.c 0), (.c 0), (.c 0), (.c 0), (.c 0), (.c 0), (.c 0), (.c 0), (.c 2), (.c 0)] rfl (by kernel_rfl)

theorem argJ169 (val : Nat → Int) (h : Holds val [.ne (.a 3) 5, .ne (.a 3) 8, .ne (.a 3) 0, .is (.a 9) 2, .ne (.a 9) 1, .ne (.a 9) 0, .le (.a 8) 2147483647, .ge (.a 8) (-2147483648), .is (.a 0) 2, .ne (.a 0) 1]) : ArgJ val :=
  leaf h [(.c 0), (.c 0), (.c 0), (.c 0), (.c 0), (.c 0), (.c 0), (.c 0), (.c 0), (.c 0), (.c 0), (.c 2), (.c 0)] rfl (by kernel_rfl)

theorem argJ170 (val : Nat → Int) (h : Holds val [.is (.a 7) 0, .is (.a 6) 0, .is (.a 5) 0, .is (.a 4) 0, .is (.a 3) 0, .is (.a 9) 4, .ne (.a 9) 2, .ne (.a 9) 1, .ne (.a 9) 0, .le (.a 8) 2147483647, .ge (.a 8) (-2147483648), .is (.a 0) 2, .ne (.a 0) 1]) : ArgJ val :=
  leaf h [(.a 0), (.c 0), (.c 0), (.a 3), (.a 4), (.a 5), (.a 6), (.a 7), (.a 8), (.a 9), (.c 0), (.c 0), (.a 9)] rfl (by kernel_rfl)

theorem argJ171 (val : Nat → Int) (h : Holds val [.ne (.a 7) 0, .is (.a 6) 0, .is (.a 5) 0, .is (.a 4) 0, .is (.a 3) 0, .is (.a 9) 4, .ne (.a 9) 2, .ne (.a 9) 1, .ne (.a 9) 0, .le (.a 8) 2147483647, .ge (.a 8) (-2147483648), .is (.a 0) 2, .ne (.a 0) 1]) : ArgJ val :=
  leaf h [(.c 0), (.c 0), (.c 0), (.c 0), (.c 0), (.c 0), (.c 0), (.c 0), (.c 0), (.c 0), (.c 0), (.c 2), (.c 0)] rfl (by kernel_rfl)

theorem argJ172 (val : Nat → Int) (h : Holds val [.ne (.a 6) 0, .is (.a 5) 0, .is (.a 4) 0, .is (.a 3) 0, .is (.a 9) 4, .ne (.a 9) 2, .ne (.a 9) 1, .ne (.a 9) 0, .le (.a 8) 2147483647, .ge (.a 8) (-2147483648), .is (.a 0) 2, .ne (.a 0) 1]) : ArgJ val :=
  leaf h [(.c 0), (.c 0), (.c 0), (.c 0), (.c 0), (.c 0), (.c 0), (.c 0), (.c 0), (.c 0), (.c 0), (.c 2), (.c 0)] rfl (by kernel_rfl)

theorem argJ173 (val : Nat → Int) (h : Holds val [.is (.a 6) 4, .is (.a 7) 1, .le (.a 6) 15, .ge (.a 6) 0, .is (.a 5) 5, .ne (.a 5) 0, .is (.a 4) 0, .is (.a 3) 0, .is (.a 9) 4, .ne (.a 9) 2, .ne (.a 9) 1, .ne (.a 9) 0, .le (.a 8) 2147483647, .ge (.a 8) (-2147483648), .is (.a 0) 2, .ne (.a 0) 1]) : ArgJ val :=
  leaf h [(.a 0), (.c 0), (.c 0), (.a 5), (.a 6), (.c 0), (.c 0), (.c 0), (.a 8), (.a 9), (.c 0), (.c 0), (.a 9)] rfl (by kernel_rfl)

theorem argJ174 (val : Nat → Int) (h : Holds val [.ne (.a 6) 4, .is (.a 7) 1, .le (.a 6) 15, .ge (.a 6) 0, .is (.a 5) 5, .ne (.a 5) 0, .is (.a 4) 0, .is (.a 3) 0, .is (.a 9) 4, .ne (.a 9) 2, .ne (.a 9) 1, .ne (.a 9) 0, .le (.a 8) 2147483647, .ge (.a 8) (-2147483648), .is (.a 0) 2, .ne (.a 0) 1]) : ArgJ val :=
  leaf h [(.a 0), (.c 0), (.c 0), (.a 5), (.a 6), (.c 0), (.c 0), (.c 0), (.a 8), (.a 9), (.c 0), (.c 0), (.a 9)] rfl (by kernel_rfl)

theorem argJ175 (val : Nat → Int) (h : Holds val [.is (.a 6) 4, .is (.a 7) 2, .ne (.a 7) 1, .le (.a 6) 15, .ge (.a 6) 0, .is (.a 5) 5, .ne (.a 5) 0, .is (.a 4) 0, .is (.a 3) 0, .is (.a 9) 4, .ne (.a 9) 2, .ne (.a 9) 1, .ne (.a 9) 0, .le (.a 8) 2147483647, .ge (.a 8) (-2147483648), .is (.a 0) 2, .ne (.a 0) 1]) : ArgJ val :=
  leaf h [(.c 0), (.c 0), (.c 0), (.c 0), (.c 0), (.c 0), (.c 0), (.c 0), (.c 0), (.c 0), (.c 0), (.c 2), (.c 0)] rfl (by kernel_rfl)

theorem argJ176 (val : Nat → Int) (h : Holds val [.ne (.a 6) 4, .is (.a 7) 2, .ne (.a 7) 1, .le (.a 6) 15, .ge (.a 6) 0, .is (.a 5) 5, .ne (.a 5) 0, .is (.a 4) 0, .is (.a 3) 0, .is (.a 9) 4, .ne (.a 9) 2, .ne (.a 9) 1, .ne (.a 9) 0, .le (.a 8) 2147483647, .ge (.a 8) (-2147483648), .is (.a 0) 2, .ne (.a 0) 1]) : ArgJ val :=
  leaf h [(.a 0), (.c 0), (.c 0), (.a 3), (.a 4), (.a 5), (.a 6), (.a 7), (.a 8), (.a 9), (.c 0), (.c 0), (.a 9)] rfl (by kernel_rfl)

theorem argJ177 (val : Nat → Int) (h : Holds val [.is (.a 6) 4, .is (.a 7) 4, .ne (.a 7) 2, .ne (.a 7) 1, .le (.a 6) 15, .ge (.a 6) 0, .is (.a 5) 5, .ne (.a 5) 0, .is (.a 4) 0, .is (.a 3) 0, .is (.a 9) 4, .ne (.a 9) 2, .ne (.a 9) 1, .ne (.a 9) 0, .le (.a 8) 2147483647, .ge (.a 8) (-2147483648), .is (.a 0) 2, .ne (.a 0) 1]) : ArgJ val :=
  leaf h [(.c 0), (.c 0), (.c 0), (.c 0), (.c 0), (.c 0), (.c 0), (.c 0), (.c 0), (.c 0), (.c 0), (.c 2), (.c 0)] rfl (by kernel_rfl)

theorem argJ178 (val : Nat → Int) (h : Holds val [.ne (.a 6) 4, .is (.a 7) 4, .ne (.a 7) 2, .ne (.a 7) 1, .le (.a 6) 15, .ge (.a 6) 0, .is (.a 5) 5, .ne (.a 5) 0, .is (.a 4) 0, .is (.a 3) 0, .is (.a 9) 4, .ne (.a 9) 2, .ne (.a 9) 1, .ne (.a 9) 0, .le (.a 8) 2147483647, .ge (.a 8) (-2147483648), .is (.a 0) 2, .ne (.a 0) 1]) : ArgJ val :=
  leaf h [(.a 0), (.c 0), (.c 0), (.a 3), (.a 4), (.a 5), (.a 6), (.a 7), (.a 8), (.a 9), (.c 0), (.c 0), (.a 9)] rfl (by kernel_rfl)

theorem argJ179 (val : Nat → Int) (h : Holds val [.is (.a 6) 4, .is (.a 7) 8, .ne (.a 7) 4, .ne (.a 7) 2, .ne (.a 7) 1, .le (.a 6) 15, .ge (.a 6) 0, .is (.a 5) 5, .ne (.a 5) 0, .is (.a 4) 0, .is (.a 3) 0, .is (.a 9) 4, .ne (.a 9) 2, .ne (.a 9) 1, .ne (.a 9) 0, .le (.a 8) 2147483647, .ge (.a 8) (-2147483648), .is (.a 0) 2, .ne (.a 0) 1]) : ArgJ val :=
  leaf h [(.c 0), (.c 0), (.c 0), (.c 0), (.c 0), (.c 0), (.c 0), (.c 0), (.c 0), (.c 0), (.c 0), (.c 2), (.c 0)] rfl (by kernel_rfl)

theorem argJ180 (val : Nat → Int) (h : Holds val [.ne (.a 6) 4, .is (.a 7) 8, .ne (.a 7) 4, .ne (.a 7) 2, .ne (.a 7) 1, .le (.a 6) 15, .ge (.a 6) 0, .is (.a 5) 5, .ne (.a 5) 0, .is (.a 4) 0, .is (.a 3) 0, .is (.a 9) 4, .ne (.a 9) 2, .ne (.a 9) 1, .ne (.a 9) 0, .le (.a 8) 2147483647, .ge (.a 8) (-2147483648), .is (.a 0) 2, .ne (.a 0) 1]) : ArgJ val :=
  leaf h [(.a 0), (.c 0), (.c 0), (.a 3), (.a 4), (.a 5), (.a 6), (.a 7), (.a 8), (.a 9), (.c 0), (.c 0), (.a 9)] rfl (by kernel_rfl)

theorem argJ181 (val : Nat → Int) (h : Holds val [.ne (.a 7) 8, .ne (.a 7) 4, .ne (.a 7) 2, .ne (.a 7) 1, .le (.a 6) 15, .ge (.a 6) 0, .is (.a 5) 5, .ne (.a 5) 0, .is (.a 4) 0, .is (.a 3) 0, .is (.a 9) 4, .ne (.a 9) 2, .ne (.a 9) 1, .ne (.a 9) 0, .le (.a 8) 2147483647, .ge (.a 8) (-2147483648), .is (.a 0) 2, .ne (.a 0) 1]) : ArgJ val :=
  leaf h [(.c 0), (.c 0), (.c 0), (.c 0), (.c 0), (.c 0), (.c 0), (.c 0), (.c 0), (.c 0), (.c 0), (.c 2), (.c 0)] rfl (by kernel_rfl)

theorem argJ182 (val : Nat → Int) (h : Holds val [.ge (.a 6) 16, .ge (.a 6) 0, .is (.a 5) 5, .ne (.a 5) 0, .is (.a 4) 0, .is (.a 3) 0, .is (.a 9) 4, .ne (.a 9) 2, .ne (.a 9) 1, .ne (.a 9) 0, .le (.a 8) 2147483647, .ge (.a 8) (-2147483648), .is (.a 0) 2, .ne (.a 0) 1]) : ArgJ val :=
  leaf h [(.c 0), (.c 0), (.c 0), (.c 0), (.c 0), (.c 0), (.c 0), (.c 0), (.c 0), (.c 0), (.c 0), (.c 2), (.c 0)] rfl (by kernel_rfl)

theorem argJ183 (val : Nat → Int) (h : Holds val [.le (.a 6) (-1), .is (.a 5) 5, .ne (.a 5) 0, .is (.a 4) 0, .is (.a 3) 0, .is (.a 9) 4, .ne (.a 9) 2, .ne (.a 9) 1, .ne (.a 9) 0, .le (.a 8) 2147483647, .ge (.a 8) (-2147483648), .is (.a 0) 2, .ne (.a 0) 1]) : ArgJ val :=
  leaf h [(.c 0), (.c 0), (.c 0), (.c 0), (.c 0), (.c 0), (.c 0), (.c 0), (.c 0), (.c 0), (.c 0), (.c 2), (.c 0)] rfl (by kernel_rfl)

theorem argJ184 (val : Nat → Int) (h : Holds val [.ne (.a 5) 5, .ne (.a 5) 0, .is (.a 4) 0, .is (.a 3) 0, .is (.a 9) 4, .ne (.a 9) 2, .ne (.a 9) 1, .ne (.a 9) 0, .le (.a 8) 2147483647, .ge (.a 8) (-2147483648), .is (.a 0) 2, .ne (.a 0) 1]) : ArgJ val :=
  leaf h [(.c 0), (.c 0), (.c 0), (.c 0), (.c 0), (.c 0), (.c 0), (.c 0), (.c 0), (.c 0), (.c 0), (.c 2), (.c 0)] rfl (by kernel_rfl)

theorem argJ185 (val : Nat → Int) (h : Holds val [.ne (.a 4) 0, .is (.a 3) 0, .is (.a 9) 4, .ne (.a 9) 2, .ne (.a 9) 1, .ne (.a 9) 0, .le (.a 8) 2147483647, .ge (.a 8) (-2147483648), .is (.a 0) 2, .ne (.a 0) 1]) : ArgJ val :=
  leaf h [(.c 0), (.c 0), (.c 0), (.c 0), (.c 0), (.c 0), (.c 0), (.c 0), (.c 0), (.c 0), (.c 0), (.c 2), (.c 0)] rfl (by kernel_rfl)

theorem argJ186 (val : Nat → Int) (h : Holds val [.is (.a 7) 0, .is (.a 6) 0, .is (.a 5) 0, .is (.a 4) 0, .is (.a 3) 8, .ne (.a 3) 0, .is (.a 9) 4, .ne (.a 9) 2, .ne (.a 9) 1, .ne (.a 9) 0, .le (.a 8) 2147483647, .ge (.a 8) (-2147483648), .is (.a 0) 2, .ne (.a 0) 1]) : ArgJ val :=
  leaf h [(.a 0), (.c 0), (.c 0), (.a 3), (.a 4), (.a 5), (.a 6), (.a 7), (.a 8), (.a 9), (.c 0), (.c 0), (.a 9)] rfl (by kernel_rfl)

theorem argJ187 (val : Nat → Int) (h : Holds val [.ne (.a 7) 0, .is (.a 6) 0, .is (.a 5) 0, .is (.a 4) 0, .is (.a 3) 8, .ne (.a 3) 0, .is (.a 9) 4, .ne (.a 9) 2, .ne (.a 9) 1, .ne (.a 9) 0, .le (.a 8) 2147483647, .ge (.a 8) (-2147483648), .is (.a 0) 2, .ne (.a 0) 1]) : ArgJ val :=
  leaf h [(.c 0), (.c 0), (.c 0), (.c 0), (.c 0), (.c 0), (.c 0), (.c 0), (.c 0), (.c 0), (.c 0), (.c 2), (.c 0)] rfl (by kernel_rfl)

theorem argJ188 (val : Nat → Int) (h : Holds val [.ne (.a 6) 0, .is (.a 5) 0, .is (.a 4) 0, .is (.a 3) 8, .ne (.a 3) 0, .is (.a 9) 4, .ne (.a 9) 2, .ne (.a 9) 1, .ne (.a 9) 0, .le (.a 8) 2147483647, .ge (.a 8) (-2147483648), .is (.a 0) 2, .ne (.a 0) 1]) : ArgJ val :=
  leaf h [(.c 0), (.c 0), (.c 0), (.c 0), (.c 0), (.c 0), (.c 0), (.c 0), (.c 0), (.c 0), (.c 0), (.c 2), (.c 0)] rfl (by kernel_rfl)

theorem argJ189 (val : Nat → Int) (h : Holds val [.is (.a 7) 1, .le (.a 6) 15, .ge (.a 6) 0, .is (.a 5) 5, .ne (.a 5) 0, .is (.a 4) 0, .is (.a 3) 8, .ne (.a 3) 0, .is (.a 9) 4, .ne (.a 9) 2, .ne (.a 9) 1, .ne (.a 9) 0, .le (.a 8) 2147483647, .ge (.a 8) (-2147483648), .is (.a 0) 2, .ne (.a 0) 1]) : ArgJ val :=
  leaf h [(.c 0), (.c 0), (.c 0), (.c 0), (.c 0), (.c 0), (.c 0), (.c 0), (.c 0), (.c 0), (.c 0), (.c 2), (.c 0)] rfl (by kernel_rfl)

theorem argJ190 (val : Nat → Int) (h : Holds val [.is (.a 7) 2, .ne (.a 7) 1, .le (.a 6) 15, .ge (.a 6) 0, .is (.a 5) 5, .ne (.a 5) 0, .is (.a 4) 0, .is (.a 3) 8, .ne (.a 3) 0, .is (.a 9) 4, .ne (.a 9) 2, .ne (.a 9) 1, .ne (.a 9) 0, .le (.a 8) 2147483647, .ge (.a 8) (-2147483648), .is (.a 0) 2, .ne (.a 0) 1]) : ArgJ val :=
  leaf h [(.c 0), (.c 0), (.c 0), (.c 0), (.c 0), (.c 0), (.c 0), (.c 0), (.c 0), (.c 0), (.c 0), (.c 2), (.c 0)] rfl (by kernel_rfl)

theorem argJ191 (val : Nat → Int) (h : Holds val [.is (.a 7) 4, .ne (.a 7) 2, .ne (.a 7) 1, .le (.a 6) 15, .ge (.a 6) 0, .is (.a 5) 5, .ne (.a 5) 0, .is (.a 4) 0, .is (.a 3) 8, .ne (.a 3) 0, .is (.a 9) 4, .ne (.a 9) 2, .ne (.a 9) 1, .ne (.a 9) 0, .le (.a 8) 2147483647, .ge (.a 8) (-2147483648), .is (.a 0) 2, .ne (.a 0) 1]) : ArgJ val :=
  leaf h [(.c 0), (.c 0), (.c 0), (.c 0), (.c 0), (.c 0), (.c 0), (.c 0), (.c 0), (.c 0), (.c 0), (.c 2), (.c 0)] rfl (by kernel_rfl)

theorem argJ192 (val : Nat → Int) (h : Holds val [.is (.a 7) 8, .ne (.a 7) 4, .ne (.a 7) 2, .ne (.a 7) 1, .le (.a 6) 15, .ge (.a 6) 0, .is (.a 5) 5, .ne (.a 5) 0, .is (.a 4) 0, .is (.a 3) 8, .ne (.a 3) 0, .is (.a 9) 4, .ne (.a 9) 2, .ne (.a 9) 1, .ne (.a 9) 0, .le (.a 8) 2147483647, .ge (.a 8) (-2147483648), .is (.a 0) 2, .ne (.a 0) 1]) : ArgJ val :=
  leaf h [(.c 0), (.c 0), (.c 0), (.c 0), (.c 0), (.c 0), (.c 0), (.c 0), (.c 0), (.c 0), (.c 0), (.c 2), (.c 0)] rfl (by kernel_rfl)

theorem argJ193 (val : Nat → Int) (h : Holds val [.ne (.a 7) 8, .ne (.a 7) 4, .ne (.a 7) 2, .ne (.a 7) 1, .le (.a 6) 15, .ge (.a 6) 0, .is (.a 5) 5, .ne (.a 5) 0, .is (.a 4) 0, .is (.a 3) 8, .ne (.a 3) 0, .is (.a 9) 4, .ne (.a 9) 2, .ne (.a 9) 1, .ne (.a 9) 0, .le (.a 8) 2147483647, .ge (.a 8) (-2147483648), .is (.a 0) 2, .ne (.a 0) 1]) : ArgJ val :=
  leaf h [(.c 0), (.c 0), (.c 0), (.c 0), (.c 0), (.c 0), (.c 0), (.c 0), (.c 0), (.c 0), (.c 0), (.c 2), (.c 0)] rfl (by kernel_rfl)

theorem argJ194 (val : Nat → Int) (h : Holds val [.ge (.a 6) 16, .ge (.a 6) 0, .is (.a 5) 5, .ne (.a 5) 0, .is (.a 4) 0, .is (.a 3) 8, .ne (.a 3) 0, .is (.a 9) 4, .ne (.a 9) 2, .ne (.a 9) 1, .ne (.a 9) 0, .le (.a 8) 2147483647, .ge (.a 8) (-2147483648), .is (.a 0) 2, .ne (.a 0) 1]) : ArgJ val :=
  leaf h [(.c 0), (.c 0), (.c 0), (.c 0), (.c 0), (.c 0), (.c 0), (.c 0), (.c 0), (.c 0), (.c 0), (.c 2), (.c 0)] rfl (by kernel_rfl)

theorem argJ195 (val : Nat → Int) (h : Holds val [.le (.a 6) (-1), .is (.a 5) 5, .ne (.a 5) 0, .is (.a 4) 0, .is (.a 3) 8, .ne (.a 3) 0, .is (.a 9) 4, .ne (.a 9) 2, .ne (.a 9) 1, .ne (.a 9) 0, .le (.a 8) 2147483647, .ge (.a 8) (-2147483648), .is (.a 0) 2, .ne (.a 0) 1]) : ArgJ val :=
  leaf h [(.c 0), (.c 0), (.c 0), (.c 0), (.c 0), (.c 0), (.c 0), (.c 0), (.c 0), (.c 0), (.c 0), (.c 2), (.c 0)] rfl (by kernel_rfl)

theorem argJ196 (val : Nat → Int) (h : Holds val [.ne (.a 5) 5, .ne (.a 5) 0, .is (.a 4) 0, .is (.a 3) 8, .ne (.a 3) 0, .is (.a 9) 4, .ne (.a 9) 2, .ne (.a 9) 1, .ne (.a 9) 0, .le (.a 8) 2147483647, .ge (.a 8) (-2147483648), .is (.a 0) 2, .ne (.a 0) 1]) : ArgJ val :=
  leaf h [(.c 0), (.c 0), (.c 0), (.c 0), (.c 0), (.c 0), (.c 0), (.c 0), (.c 0), (.c 0), (.c 0), (.c 2), (.c 0)] rfl (by kernel_rfl)

theorem argJ197 (val : Nat → Int) (h : Holds val [.ne (.a 4) 0, .is (.a 3) 8, .ne (.a 3) 0, .is (.a 9) 4, .ne (.a 9) 2, .ne (.a 9) 1, .ne (.a 9) 0, .le (.a 8) 2147483647, .ge (.a 8) (-2147483648), .is (.a 0) 2, .ne (.a 0) 1]) : ArgJ val :=
  leaf h [(.c 0), (.c 0), (.c 0), (.c 0), (.c 0), (.c 0), (.c 0), (.c 0), (.c 0), (.c 0), (.c 0), (.c 2), (.c 0)] rfl (by kernel_rfl)

theorem argJ198 (val : Nat → Int) (h : Holds val [.is (.a 7) 0, .is (.a 6) 0, .is (.a 5) 0, .le (.a 4) 15, .ge (.a 4) 0, .is (.a 3) 5, .ne (.a 3) 8, .ne (.a 3) 0, .is (.a 9) 4, .ne (.a 9) 2, .ne (.a 9) 1, .ne (.a 9) 0, .le (.a 8) 2147483647, .ge (.a 8) (-2147483648), .is (.a 0) 2, .ne (.a 0) 1]) : ArgJ val :=
  leaf h [(.a 0), (.c 0), (.c 0), (.a 3), (.a 4), (.a 5), (.a 6), (.a 7), (.a 8), (.a 9), (.c 0), (.c 0), (.a 9)] rfl (by kernel_rfl)

theorem argJ199 (val : Nat → Int) (h : Holds val [.ne (.a 7) 0, .is (.a 6) 0, .is (.a 5) 0, .le (.a 4) 15, .ge (.a 4) 0, .is (.a 3) 5, .ne (.a 3) 8, .ne (.a 3) 0, .is (.a 9) 4, .ne (.a 9) 2, .ne (.a 9) 1, .ne (.a 9) 0, .le (.a 8) 2147483647, .ge (.a 8) (-2147483648), .is (.a 0) 2, .ne (.a 0) 1]) : ArgJ val :=
  leaf h [(.c 0), (.c 0), (.c 0), (.c 0), (.c 0), (.c 0), (.c 0), (.c 0), (.c 0), (.c 0), (.c 0), (.c 2), (.c 0)] rfl (by kernel_rfl)

theorem argJ200 (val : Nat → Int) (h : Holds val [.ne (.a 6) 0, .is (.a 5) 0, .le (.a 4) 15, .ge (.a 4) 0, .is (.a 3) 5, .ne (.a 3) 8, .ne (.a 3) 0, .is (.a 9) 4, .ne (.a 9) 2, .ne (.a 9) 1, .ne (.a 9) 0, .le (.a 8) 2147483647, .ge (.a 8) (-2147483648), .is (.a 0) 2, .ne (.a 0) 1]) : ArgJ val :=
  leaf h [(.c 0), (.c 0), (.c 0), (.c 0), (.c 0), (.c 0), (.c 0), (.c 0), (.c 0), (.c 0), (.c 0), (.c 2), (.c 0)] rfl (by kernel_rfl)

theorem argJ201 (val : Nat → Int) (h : Holds val [.is (.a 4) 4, .is (.a 6) 4, .is (.a 7) 1, .le (.a 6) 15, .ge (.a 6) 0, .is (.a 5) 5, .ne (.a 5) 0, .le (.a 4) 15, .ge (.a 4) 0, .is (.a 3) 5, .ne (.a 3) 8, .ne (.a 3) 0, .is (.a 9) 4, .ne (.a 9) 2, .ne (.a 9) 1, .ne (.a 9) 0, .le (.a 8) 2147483647, .ge (.a 8) (-2147483648), .is (.a 0) 2, .ne (.a 0) 1]) : ArgJ val :=
  leaf h [(.c 0), (.c 0), (.c 0), (.c 0), (.c 0), (.c 0), (.c 0), (.c 0), (.c 0), (.c 0), (.c 0), (.c 2), (.c 0)] rfl (by kernel_rfl)

theorem argJ202 (val : Nat → Int) (h : Holds val [.ne (.a 4) 4, .is (.a 6) 4, .is (.a 7) 1, .le (.a 6) 15, .ge (.a 6) 0, .is (.a 5) 5, .ne (.a 5) 0, .le (.a 4) 15, .ge (.a 4) 0, .is (.a 3) 5, .ne (.a 3) 8, .ne (.a 3) 0, .is (.a 9) 4, .ne (.a 9) 2, .ne (.a 9) 1, .ne (.a 9) 0, .le (.a 8) 2147483647, .ge (.a 8) (-2147483648), .is (.a 0) 2, .ne (.a 0) 1]) : ArgJ val :=
  leaf h [(.a 0), (.c 0), (.c 0), (.a 5), (.a 6), (.a 3), (.a 4), (.a 7), (.a 8), (.a 9), (.c 0), (.c 0), (.a 9)] rfl (by kernel_rfl)

theorem argJ203 (val : Nat → Int) (h : Holds val [.ne (.a 6) 4, .is (.a 7) 1, .le (.a 6) 15, .ge (.a 6) 0, .is (.a 5) 5, .ne (.a 5) 0, .le (.a 4) 15, .ge (.a 4) 0, .is (.a 3) 5, .ne (.a 3) 8, .ne (.a 3) 0, .is (.a 9) 4, .ne (.a 9) 2, .ne (.a 9) 1, .ne (.a 9) 0, .le (.a 8) 2147483647, .ge (.a 8) (-2147483648), .is (.a 0) 2, .ne (.a 0) 1]) : ArgJ val :=
  leaf h [(.a 0), (.c 0), (.c 0), (.a 3), (.a 4), (.a 5), (.a 6), (.a 7), (.a 8), (.a 9), (.c 0), (.c 0), (.a 9)] rfl (by kernel_rfl)

theorem argJ204 (val : Nat → Int) (h : Holds val [.is (.a 6) 4, .is (.a 7) 2, .ne (.a 7) 1, .le (.a 6) 15, .ge (.a 6) 0, .is (.a 5) 5, .ne (.a 5) 0, .le (.a 4) 15, .ge (.a 4) 0, .is (.a 3) 5, .ne (.a 3) 8, .ne (.a 3) 0, .is (.a 9) 4, .ne (.a 9) 2, .ne (.a 9) 1, .ne (.a 9) 0, .le (.a 8) 2147483647, .ge (.a 8) (-2147483648), .is (.a 0) 2, .ne (.a 0) 1]) : ArgJ val :=
  leaf h [(.c 0), (.c 0), (.c 0), (.c 0), (.c 0), (.c 0), (.c 0), (.c 0), (.c 0), (.c 0), (.c 0), (.c 2), (.c 0)] rfl (by kernel_rfl)

theorem argJ205 (val : Nat → Int) (h : Holds val [.ne (.a 6) 4, .is (.a 7) 2, .ne (.a 7) 1, .le (.a 6) 15, .ge (.a 6) 0, .is (.a 5) 5, .ne (.a 5) 0, .le (.a 4) 15, .ge (.a 4) 0, .is (.a 3) 5, .ne (.a 3) 8, .ne (.a 3) 0, .is (.a 9) 4, .ne (.a 9) 2, .ne (.a 9) 1, .ne (.a 9) 0, .le (.a 8) 2147483647, .ge (.a 8) (-2147483648), .is (.a 0) 2, .ne (.a 0) 1]) : ArgJ val :=
  leaf h [(.a 0), (.c 0), (.c 0), (.a 3), (.a 4), (.a 5), (.a 6), (.a 7), (.a 8), (.a 9), (.c 0), (.c 0), (.a 9)] rfl (by kernel_rfl)

theorem argJ206 (val : Nat → Int) (h : Holds val [.is (.a 6) 4, .is (.a 7) 4, .ne (.a 7) 2, .ne (.a 7) 1, .le (.a 6) 15, .ge (.a 6) 0, .is (.a 5) 5, .ne (.a 5) 0, .le (.a 4) 15, .ge (.a 4) 0, .is (.a 3) 5, .ne (.a 3) 8, .ne (.a 3) 0, .is (.a 9) 4, .ne (.a 9) 2, .ne (.a 9) 1, .ne (.a 9) 0, .le (.a 8) 2147483647, .ge (.a 8) (-2147483648), .is (.a 0) 2, .ne (.a 0) 1]) : ArgJ val :=
  leaf h [(.c 0), (.c 0), (.c 0), (.c 0), (.c 0), (.c 0), (.c 0), (.c 0), (.c 0), (.c 0), (.c 0), (.c 2), (.c 0)] rfl (by kernel_rfl)

theorem argJ207 (val : Nat → Int) (h : Holds val [.ne (.a 6) 4, .is (.a 7) 4, .ne (.a 7) 2, .ne (.a 7) 1, .le (.a 6) 15, .ge (.a 6) 0, .is (.a 5) 5, .ne (.a 5) 0, .le (.a 4) 15, .ge (.a 4) 0, .is (.a 3) 5, .ne (.a 3) 8, .ne (.a 3) 0, .is (.a 9) 4, .ne (.a 9) 2, .ne (.a 9) 1, .ne (.a 9) 0, .le (.a 8) 2147483647, .ge (.a 8) (-2147483648), .is (.a 0) 2, .ne (.a 0) 1]) : ArgJ val :=
  leaf h [(.a 0), (.c 0), (.c 0), (.a 3), (.a 4), (.a 5), (.a 6), (.a 7), (.a 8), (.a 9), (.c 0), (.c 0), (.a 9)] rfl (by kernel_rfl)

theorem argJ208 (val : Nat → Int) (h : Holds val [.is (.a 6) 4, .is (.a 7) 8, .ne (.a 7) 4, .ne (.a 7) 2, .ne (.a 7) 1, .le (.a 6) 15, .ge (.a 6) 0, .is (.a 5) 5, .ne (.a 5) 0, .le (.a 4) 15, .ge (.a 4) 0, .is (.a 3) 5, .ne (.a 3) 8, .ne (.a 3) 0, .is (.a 9) 4, .ne (.a 9) 2, .ne (.a 9) 1, .ne (.a 9) 0, .le (.a 8) 2147483647, .ge (.a 8) (-2147483648), .is (.a 0) 2, .ne (.a 0) 1]) : ArgJ val :=
  leaf h [(.c 0), (.c 0), (.c 0), (.c 0), (.c 0), (.c 0), (.c 0), (.c 0), (.c 0), (.c 0), (.c 0), (.c 2), (.c 0)] rfl (by kernel_rfl)

theorem argJ209 (val : Nat → Int) (h : Holds val [.ne (.a 6) 4, .is (.a 7) 8, .ne (.a 7) 4, .ne (.a 7) 2, .ne (.a 7) 1, .le (.a 6) 15, .ge (.a 6) 0, .is (.a 5) 5, .ne (.a 5) 0, .le (.a 4) 15, .ge (.a 4) 0, .is (.a 3) 5, .ne (.a 3) 8, .ne (.a 3) 0, .is (.a 9) 4, .ne (.a 9) 2, .ne (.a 9) 1, .ne (.a 9) 0, .le (.a 8) 2147483647, .ge (.a 8) (-2147483648), .is (.a 0) 2, .ne (.a 0) 1]) : ArgJ val :=
  leaf h [(.a 0), (.c 0), (.c 0), (.a 3), (.a 4), (.a 5), (.a 6), (.a 7), (.a 8), (.a 9), (.c 0), (.c 0), (.a 9)] rfl (by kernel_rfl)

theorem argJ210 (val : Nat → Int) (h : Holds val [.ne (.a 7) 8, .ne (.a 7) 4, .ne (.a 7) 2, .ne (.a 7) 1, .le (.a 6) 15, .ge (.a 6) 0, .is (.a 5) 5, .ne (.a 5) 0, .le (.a 4) 15, .ge (.a 4) 0, .is (.a 3) 5, .ne (.a 3) 8, .ne (.a 3) 0, .is (.a 9) 4, .ne (.a 9) 2, .ne (.a 9) 1, .ne (.a 9) 0, .le (.a 8) 2147483647, .ge (.a 8) (-2147483648), .is (.a 0) 2, .ne (.a 0) 1]) : ArgJ val :=
  leaf h [(.c 0), (.c 0), (.c 0), (.c 0), (.c 0), (.c 0), (.c 0), (.c 0), (.c 0), (.c 0), (.c 0), (.c 2), (.c 0)] rfl (by kernel_rfl)

theorem argJ211 (val : Nat → Int) (h : Holds val [.ge (.a 6) 16, .ge (.a 6) 0, .is (.a 5) 5, .ne (.a 5) 0, .le (.a 4) 15, .ge (.a 4) 0, .is (.a 3) 5, .ne (.a 3) 8, .ne (.a 3) 0, .is (.a 9) 4, .ne (.a 9) 2, .ne (.a 9) 1, .ne (.a 9) 0, .le (.a 8) 2147483647, .ge (.a 8) (-2147483648), .is (.a 0) 2, .ne (.a 0) 1]) : ArgJ val :=
  leaf h [(.c 0), (.c 0), (.c 0), (.c 0), (.c 0), (.c 0), (.c 0), (.c 0), (.c 0), (.c 0), (.c 0), (.c 2), (.c 0)] rfl (by kernel_rfl)

theorem argJ212 (val : Nat → Int) (h : Holds val [.le (.a 6) (-1), .is (.a 5) 5, .ne (.a 5) 0, .le (.a 4) 15, .ge (.a 4) 0, .is (.a 3) 5, .ne (.a 3) 8, .ne (.a 3) 0, .is (.a 9) 4, .ne (.a 9) 2, .ne (.a 9) 1, .ne (.a 9) 0, .le (.a 8) 2147483647, .ge (.a 8) (-2147483648), .is (.a 0) 2, .ne (.a 0) 1]) : ArgJ val :=
  leaf h [(.c 0), (.c 0), (.c 0), (.c 0), (.c 0), (.c 0), (.c 0), (.c 0), (.c 0), (.c 0), (.c 0), (.c 2), (.c 0)] rfl (by kernel_rfl)

theorem argJ213 (val : Nat → Int) (h : Holds val [.ne (.a 5) 5, .ne (.a 5) 0, .le (.a 4) 15, .ge (.a 4) 0, .is (.a 3) 5, .ne (.a 3) 8, .ne (.a 3) 0, .is (.a 9) 4, .ne (.a 9) 2, .ne (.a 9) 1, .ne (.a 9) 0, .le (.a 8) 2147483647, .ge (.a 8) (-2147483648), .is (.a 0) 2, .ne (.a 0) 1]) : ArgJ val :=
  leaf h [(.c 0), (.c 0), (.c 0), (.c 0), (.c 0), (.c 0), (.c 0), (.c 0), (.c 0), (.c 0), (.c 0), (.c 2), (.c 0)] rfl (by kernel_rfl)

theorem argJ214 (val : Nat → Int) (h : Holds val [.ge (.a 4) 16, .ge (.a 4) 0, .is (.a 3) 5, .ne (.a 3) 8, .ne (.a 3) 0, .is (.a 9) 4, .ne (.a 9) 2, .ne (.a 9) 1, .ne (.a 9) 0, .le (.a 8) 2147483647, .ge (.a 8) (-2147483648), .is (.a 0) 2, .ne (.a 0) 1]) : ArgJ val :=
  leaf h [(.c 0), (.c 0), (.c 0), (.c 0), (.c 0), (.c 0), (.c 0), (.c 0), (.c 0), (.c 0), (.c 0), (.c 2), (.c 0)] rfl (by kernel_rfl)

theorem argJ215 (val : Nat → Int) (h : Holds val [.le (.a 4) (-1), .is (.a 3) 5, .ne (.a 3) 8, .ne (.a 3) 0, .is (.a 9) 4, .ne (.a 9) 2, .ne (.a 9) 1, .ne (.a 9) 0, .le (.a 8) 2147483647, .ge (.a 8) (-2147483648), .is (.a 0) 2, .ne (.a 0) 1]) : ArgJ val :=
  leaf h [(.c 0), (.c 0), (.c 0), (.c 0), (.c 0), (.c 0), (.c 0), (.c 0), (.c 0), (.c 0), (.c 0), (.c 2), (.c 0)] rfl (by kernel_rfl)

theorem argJ216 (val : Nat → Int) (h : Holds val [.ne (.a 3) 5, .ne (.a 3) 8, .ne (.a 3) 0, .is (.a 9) 4, .ne (.a 9) 2, .ne (.a 9) 1, .ne (.a 9) 0, .le (.a 8) 2147483647, .ge (.a 8) (-2147483648), .is (.a 0) 2, .ne (.a 0) 1]) : ArgJ val :=
  leaf h [(.c 0), (.c 0), (.c 0), (.c 0), (.c 0), (.c 0), (.c 0), (.c 0), (.c 0), (.c 0), (.c 0), (.c 2), (.c 0)] rfl (by kernel_rfl)

theorem argJ217 (val : Nat → Int) (h : Holds val [.is (.a 7) 0, .is (.a 6) 0, .is (.a 5) 0, .is (.a 4) 0, .is (.a 3) 0, .is (.a 9) 8, .ne (.a 9) 4, .ne (.a 9) 2, .ne (.a 9) 1, .ne (.a 9) 0, .le (.a 8) 2147483647, .ge (.a 8) (-2147483648), .is (.a 0) 2, .ne (.a 0) 1]) : ArgJ val :=
  leaf h [(.a 0), (.c 0), (.c 0), (.a 3), (.a 4), (.a 5), (.a 6), (.a 7), (.a 8), (.a 9), (.c 0), (.c 0), (.a 9)] rfl (by kernel_rfl)

theorem argJ218 (val : Nat → Int) (h : Holds val [.ne (.a 7) 0, .is (.a 6) 0, .is (.a 5) 0, .is (.a 4) 0, .is (.a 3) 0, .is (.a 9) 8, .ne (.a 9) 4, .ne (.a 9) 2, .ne (.a 9) 1, .ne (.a 9) 0, .le (.a 8) 2147483647, .ge (.a 8) (-2147483648), .is (.a 0) 2, .ne (.a 0) 1]) : ArgJ val :=
  leaf h [(.c 0), (.c 0), (.c 0), (.c 0), (.c 0), (.c 0), (.c 0), (.c 0), (.c 0), (.c 0), (.c 0), (.c 2), (.c 0)] rfl (by kernel_rfl)

theorem argJ219 (val : Nat → Int) (h : Holds val [.ne (.a 6) 0, .is (.a 5) 0, .is (.a 4) 0, .is (.a 3) 0, .is (.a 9) 8, .ne (.a 9) 4, .ne (.a 9) 2, .ne (.a 9) 1, .ne (.a 9) 0, .le (.a 8) 2147483647, .ge (.a 8) (-2147483648), .is (.a 0) 2, .ne (.a 0) 1]) : ArgJ val :=
  leaf h [(.c 0), (.c 0), (.c 0), (.c 0), (.c 0), (.c 0), (.c 0), (.c 0), (.c 0), (.c 0), (.c 0), (.c 2), (.c 0)] rfl (by kernel_rfl)

theorem argJ220 (val : Nat → Int) (h : Holds val [.is (.a 6) 4, .is (.a 7) 1, .le (.a 6) 15, .ge (.a 6) 0, .is (.a 5) 5, .ne (.a 5) 0, .is (.a 4) 0, .is (.a 3) 0, .is (.a 9) 8, .ne (.a 9) 4, .ne (.a 9) 2, .ne (.a 9) 1, .ne (.a 9) 0, .le (.a 8) 2147483647, .ge (.a 8) (-2147483648), .is (.a 0) 2, .ne (.a 0) 1]) : ArgJ val :=
  leaf h [(.a 0), (.c 0), (.c 0), (.a 5), (.a 6), (.c 0), (.c 0), (.c 0), (.a 8), (.a 9), (.c 0), (.c 0), (.a 9)] rfl (by kernel_rfl)

theorem argJ221 (val : Nat → Int) (h : Holds val [.ne (.a 6) 4, .is (.a 7) 1, .le (.a 6) 15, .ge (.a 6) 0, .is (.a 5) 5, .ne (.a 5) 0, .is (.a 4) 0, .is (.a 3) 0, .is (.a 9) 8, .ne (.a 9) 4, .ne (.a 9) 2, .ne (.a 9) 1, .ne (.a 9) 0, .le (.a 8) 2147483647, .ge (.a 8) (-2147483648), .is (.a 0) 2, .ne (.a 0) 1]) : ArgJ val :=
  leaf h [(.a 0), (.c 0), (.c 0), (.a 5), (.a 6), (.c 0), (.c 0), (.c 0), (.a 8), (.a 9), (.c 0), (.c 0), (.a 9)] rfl (by kernel_rfl)

theorem argJ222 (val : Nat → Int) (h : Holds val [.is (.a 6) 4, .is (.a 7) 2, .ne (.a 7) 1, .le (.a 6) 15, .ge (.a 6) 0, .is (.a 5) 5, .ne (.a 5) 0, .is (.a 4) 0, .is (.a 3) 0, .is (.a 9) 8, .ne (.a 9) 4, .ne (.a 9) 2, .ne (.a 9) 1, .ne (.a 9) 0, .le (.a 8) 2147483647, .ge (.a 8) (-2147483648), .is (.a 0) 2, .ne (.a 0) 1]) : ArgJ val :=
  leaf h [(.c 0), (.c 0), (.c 0), (.c 0), (.c 0), (.c 0), (.c 0), (.c 0), (.c 0), (.c 0), (.c 0), (.c 2), (.c 0)] rfl (by kernel_rfl)

theorem argJ223 (val : Nat → Int) (h : Holds val [.ne (.a 6) 4, .is (.a 7) 2, .ne (.a 7) 1, .le (.a 6) 15, .ge (.a 6) 0, .is (.a 5) 5, .ne (.a 5) 0, .is (.a 4) 0, .is (.a 3) 0, .is (.a 9) 8, .ne (.a 9) 4, .ne (.a 9) 2, .ne (.a 9) 1, .ne (.a 9) 0, .le (.a 8) 2147483647, .ge (.a 8) (-2147483648), .is (.a 0) 2, .ne (.a 0) 1]) : ArgJ val :=
  leaf h [(.a 0), (.c 0), (.c 0), (.a 3), (.a 4), (.a 5), (.a 6), (.a 7), (.a 8), (.a 9), (.c 0), (.c 0), (.a 9)] rfl (by kernel_rfl)

theorem argJ224 (val : Nat → Int) (h : Holds val [.is (.a 6) 4, .is (.a 7) 4, .ne (.a 7) 2, .ne (.a 7) 1, .le (.a 6) 15, .ge (.a 6) 0, .is (.a 5) 5, .ne (.a 5) 0, .is (.a 4) 0, .is (.a 3) 0, .is (.a 9) 8, .ne (.a 9) 4, .ne (.a 9) 2, .ne (.a 9) 1, .ne (.a 9) 0, .le (.a 8) 2147483647, .ge (.a 8) (-2147483648), .is (.a 0) 2, .ne (.a 0) 1]) : ArgJ val :=
  leaf h [(.c 0), (.c 0), (.c 0), (.c 0), (.c 0), (.c 0), (.c 0), (.c 0), (.c 0), (.c 0), (.c 0), (.c 2), (.c 0)] rfl (by kernel_rfl)

theorem argJ225 (val : Nat → Int) (h : Holds val [.ne (.a 6) 4, .is (.a 7) 4, .ne (.a 7) 2, .ne (.a 7) 1, .le (.a 6) 15, .ge (.a 6) 0, .is (.a 5) 5, .ne (.a 5) 0, .is (.a 4) 0, .is (.a 3) 0, .is (.a 9) 8, .ne (.a 9) 4, .ne (.a 9) 2, .ne (.a 9) 1, .ne (.a 9) 0, .le (.a 8) 2147483647, .ge (.a 8) (-2147483648), .is (.a 0) 2, .ne (.a 0) 1]) : ArgJ val :=
  leaf h [(.a 0), (.c 0), (.c 0), (.a 3), (.a 4), (.a 5), (.a 6), (.a 7), (.a 8), (.a 9), (.c 0), (.c 0), (.a 9)] rfl (by kernel_rfl)

theorem argJ226 (val : Nat → Int) (h : Holds val [.is (.a 6) 4, .is (.a 7) 8, .ne (.a 7) 4, .ne (.a 7) 2, .ne (.a 7) 1, .le (.a 6) 15, .ge (.a 6) 0, .is (.a 5) 5, .ne (.a 5) 0, .is (.a 4) 0, .is (.a 3) 0, .is (.a 9) 8, .ne (.a 9) 4, .ne (.a 9) 2, .ne (.a 9) 1, .ne (.a 9) 0, .le (.a 8) 2147483647, .ge (.a 8) (-2147483648), .is (.a 0) 2, .ne (.a 0) 1]) : ArgJ val :=
  leaf h [(.c 0), (.c 0), (.c 0), (.c 0), (.c 0), (.c 0), (.c 0), (.c 0), (.c 0), (.c 0), (.c 0), (.c 2), (.c 0)] rfl (by kernel_rfl)

theorem argJ227 (val : Nat → Int) (h : Holds val [.ne (.a 6) 4, .is (.a 7) 8, .ne (.a 7) 4, .ne (.a 7) 2, .ne (.a 7) 1, .le (.a 6) 15, .ge (.a 6) 0, .is (.a 5) 5, .ne (.a 5) 0, .is (.a 4) 0, .is (.a 3) 0, .is (.a 9) 8, .ne (.a 9) 4, .ne (.a 9) 2, .ne (.a 9) 1, .ne (.a 9) 0, .le (.a 8) 2147483647, .ge (.a 8) (-2147483648), .is (.a 0) 2, .ne (.a 0) 1]) : ArgJ val :=
  leaf h [(.a 0), (.c 0), (.c 0), (.a 3), (.a 4), (.a 5), (.a 6), (.a 7), (.a 8), (.a 9), (.c 0), (.c 0), (.a 9)] rfl (by kernel_rfl)

theorem argJ228 (val : Nat → Int) (h : Holds val [.ne (.a 7) 8, .ne (.a 7) 4, .ne (.a 7) 2, .ne (.a 7) 1, .le (.a 6) 15, .ge (.a 6) 0, .is (.a 5) 5, .ne (.a 5) 0, .is (.a 4) 0, .is (.a 3) 0, .is (.a 9) 8, .ne (.a 9) 4, .ne (.a 9) 2, .ne (.a 9) 1, .ne (.a 9) 0, .le (.a 8) 2147483647, .ge (.a 8) (-2147483648), .is (.a 0) 2, .ne (.a 0) 1]) : ArgJ val :=
  leaf h [(.c 0), (.c 0), (.c 0), (.c 0), (.c 0), (.c 0), (.c 0), (.c 0), (.c 0), (.c 0), (.c 0), (.c 2), (.c 0)] rfl (by kernel_rfl)

theorem argJ229 (val : Nat → Int) (h : Holds val [.ge (.a 6) 16, .ge (.a 6) 0, .is (.a 5) 5, .ne (.a 5) 0, .is (.a 4) 0, .is (.a 3) 0, .is (.a 9) 8, .ne (.a 9) 4, .ne (.a 9) 2, .ne (.a 9) 1, .ne (.a 9) 0, .le (.a 8) 2147483647, .ge (.a 8) (-2147483648), .is (.a 0) 2, .ne (.a 0) 1]) : ArgJ val :=
  leaf h [(.c 0), (.c 0), (.c 0), (.c 0), (.c 0), (.c 0), (.c 0), (.c 0), (.c 0), (.c 0), (.c 0), (.c 2), (.c 0)] rfl (by kernel_rfl)

theorem argJ230 (val : Nat → Int) (h : Holds val [.le (.a 6) (-1), .is (.a 5) 5, .ne (.a 5) 0, .is (.a 4) 0, .is (.a 3) 0, .is (.a 9) 8, .ne (.a 9) 4, .ne (.a 9) 2, .ne (.a 9) 1, .ne (.a 9) 0, .le (.a 8) 2147483647, .ge (.a 8) (-2147483648), .is (.a 0) 2, .ne (.a 0) 1]) : ArgJ val :=
  leaf h [(.c 0), (.c 0), (.c 0), (.c 0), (.c 0), (.c 0), (.c 0), (.c 0), (.c 0), (.c 0), (.c 0), (.c 2), (.c 0)] rfl (by kernel_rfl)

theorem argJ231 (val : Nat → Int) (h : Holds val [.ne (.a 5) 5, .ne (.a 5) 0, .is (.a 4) 0, .is (.a 3) 0, .is (.a 9) 8, .ne (.a 9) 4, .ne (.a 9) 2, .ne (.a 9) 1, .ne (.a 9) 0, .le (.a 8) 2147483647, .ge (.a 8) (-2147483648), .is (.a 0) 2, .ne (.a 0) 1]) : ArgJ val :=
  leaf h [(.c 0), (.c 0), (.c 0), (.c 0), (.c 0), (.c 0), (.c 0), (.c 0), (.c 0), (.c 0), (.c 0), (.c 2), (.c 0)] rfl (by kernel_rfl)

theorem argJ232 (val : Nat → Int) (h : Holds val [.ne (.a 4) 0, .is (.a 3) 0, .is (.a 9) 8, .ne (.a 9) 4, .ne (.a 9) 2, .ne (.a 9) 1, .ne (.a 9) 0, .le (.a 8) 2147483647, .ge (.a 8) (-2147483648), .is (.a 0) 2, .ne (.a 0) 1]) : ArgJ val :=
  leaf h [(.c 0), (.c 0), (.c 0), (.c 0), (.c 0), (.c 0), (.c 0), (.c 0), (.c 0), (.c 0), (.c 0), (.c 2), (.c 0)] rfl (by kernel_rfl)

theorem argJ233 (val : Nat → Int) (h : Holds val [.is (.a 7) 0, .is (.a 6) 0, .is (.a 5) 0, .is (.a 4) 0, .is (.a 3) 8, .ne (.a 3) 0, .is (.a 9) 8, .ne (.a 9) 4, .ne (.a 9) 2, .ne (.a 9) 1, .ne (.a 9) 0, .le (.a 8) 2147483647, .ge (.a 8) (-2147483648), .is (.a 0) 2, .ne (.a 0) 1]) : ArgJ val :=
  leaf h [(.a 0), (.c 0), (.c 0), (.a 3), (.a 4), (.a 5), (.a 6), (.a 7), (.a 8), (.a 9), (.c 0), (.c 0), (.a 9)] rfl (by kernel_rfl)

theorem argJ234 (val : Nat → Int) (h : Holds val [.ne (.a 7) 0, .is (.a 6) 0, .is (.a 5) 0, .is (.a 4) 0, .is (.a 3) 8, .ne (.a 3) 0, .is (.a 9) 8, .ne (.a 9) 4, .ne (.a 9) 2, .ne (.a 9) 1, .ne (.a 9) 0, .le (.a 8) 2147483647, .ge (.a 8) (-2147483648), .is (.a 0) 2, .ne (.a 0) 1]) : ArgJ val :=
  leaf h [(.c 0), (.c 0), (.c 0), (.c 0), (.c 0), (.c 0), (.c 0), (.c 0), (.c 0), (.c 0), (.c 0), (.c 2), (.c 0)] rfl (by kernel_rfl)

theorem argJ235 (val : Nat → Int) (h : Holds val [.ne (.a 6) 0, .is (.a 5) 0, .is (.a 4) 0, .is (.a 3) 8, .ne (.a 3) 0, .is (.a 9) 8, .ne (.a 9) 4, .ne (.a 9) 2, .ne (.a 9) 1, .ne (.a 9) 0, .le (.a 8) 2147483647, .ge (.a 8) (-2147483648), .is (.a 0) 2, .ne (.a 0) 1]) : ArgJ val :=
  leaf h [(.c 0), (.c 0), (.c 0), (.c 0), (.c 0), (.c 0), (.c 0), (.c 0), (.c 0), (.c 0), (.c 0), (.c 2), (.c 0)] rfl (by kernel_rfl)

theorem argJ236 (val : Nat → Int) (h : Holds val [.is (.a 7) 1, .le (.a 6) 15, .ge (.a 6) 0, .is (.a 5) 5, .ne (.a 5) 0, .is (.a 4) 0, .is (.a 3) 8, .ne (.a 3) 0, .is (.a 9) 8, .ne (.a 9) 4, .ne (.a 9) 2, .ne (.a 9) 1, .ne (.a 9) 0, .le (.a 8) 2147483647, .ge (.a 8) (-2147483648), .is (.a 0) 2, .ne (.a 0) 1]) : ArgJ val :=
  leaf h [(.c 0), (.c 0), (.c 0), (.c 0), (.c 0), (.c 0), (.c 0), (.c 0), (.c 0), (.c 0), (.c 0), (.c 2), (.c 0)] rfl (by kernel_rfl)

theorem argJ237 (val : Nat → Int) (h : Holds val [.is (.a 7) 2, .ne (.a 7) 1, .le (.a 6) 15, .ge (.a 6) 0, .is (.a 5) 5, .ne (.a 5) 0, .is (.a 4) 0, .is (.a 3) 8, .ne (.a 3) 0, .is (.a 9) 8, .ne (.a 9) 4, .ne (.a 9) 2, .ne (.a 9) 1, .ne (.a 9) 0, .le (.a 8) 2147483647, .ge (.a 8) (-2147483648), .is (.a 0) 2, .ne (.a 0) 1]) : ArgJ val :=
  leaf h [(.c 0), (.c 0), (.c 0), (.c 0), (.c 0), (.c 0), (.c 0), (.c 0), (.c 0), (.c 0), (.c 0), (.c 2), (.c 0)] rfl (by kernel_rfl)

theorem argJ238 (val : Nat → Int) (h : Holds val [.is (.a 7) 4, .ne (.a 7) 2, .ne (.a 7) 1, .le (.a 6) 15, .ge (.a 6) 0, .is (.a 5) 5, .ne (.a 5) 0, .is (.a 4) 0, .is (.a 3) 8, .ne (.a 3) 0, .is (.a 9) 8, .ne (.a 9) 4, .ne (.a 9) 2, .ne (.a 9) 1, .ne (.a 9) 0, .le (.a 8) 2147483647, .ge (.a 8) (-2147483648), .is (.a 0) 2, .ne (.a 0) 1]) : ArgJ val :=
  leaf h [(.c 0), (.c 0), (.c 0), (.c 0), (.c 0), (.c 0), (.c 0), (.c 0), (.c 0), (.c 0), (.c 0), (.c 2), (.c 0)] rfl (by kernel_rfl)

theorem argJ239 (val : Nat → Int) (h : Holds val [.is (.a 7) 8, .ne (.a 7) 4, .ne (.a 7) 2, .ne (.a 7) 1, .le (.a 6) 15, .ge (.a 6) 0, .is (.a 5) 5, .ne (.a 5) 0, .is (.a 4) 0, .is (.a 3) 8, .ne (.a 3) 0, .is (.a 9) 8, .ne (.a 9) 4, .ne (.a 9) 2, .ne (.a 9) 1, .ne (.a 9) 0, .le (.a 8) 2147483647, .ge (.a 8) (-2147483648), .is (.a 0) 2, .ne (.a 0) 1]) : ArgJ val :=
  leaf h [(.c 0), (.c 0), (.c 0), (.c 0), (.c 0), (.c 0), (.c 0), (.c 0), (.c 0), (.c 0), (.c 0), (.c 2), (.c 0)] rfl (by kernel_rfl)

theorem argJ240 (val : Nat → Int) (h : Holds val [.ne (.a 7) 8, .ne (.a 7) 4, .ne (.a 7) 2, .ne (.a 7) 1, .le (.a 6) 15, .ge (.a 6) 0, .is (.a 5) 5, .ne (.a 5) 0, .is (.a 4) 0, .is (.a 3) 8, .ne (.a 3) 0, .is (.a 9) 8, .ne (.a 9) 4, .ne (.a 9) 2, .ne (.a 9) 1, .ne (.a 9) 0, .le (.a 8) 2147483647, .ge (.a 8) (-2147483648), .is (.a 0) 2, .ne (.a 0) 1]) : ArgJ val :=
  leaf h [(.c 0), (.c 0), (.c 0), (.c 0), (.c 0), (.c 0), (.c 0), (.c 0), (.c 0), (.c 0), (.c 0), (.c 2), (.c 0)] rfl (by kernel_rfl)

theorem argJ241 (val : Nat → Int) (h : Holds val [.ge (.a 6) 16, .ge (.a 6) 0, .is (.a 5) 5, .ne (.a 5) 0, .is (.a 4) 0, .is (.a 3) 8, .ne (.a 3) 0, .is (.a 9) 8, .ne (.a 9) 4, .ne (.a 9) 2, .ne (.a 9) 1, .ne (.a 9) 0, .le (.a 8) 2147483647, .ge (.a 8) (-2147483648), .is (.a 0) 2, .ne (.a 0) 1]) : ArgJ val :=
  leaf h [(.c 0), (.c 0), (.c 0), (.c 0), (.c 0), (.c 0), (.c 0), (.c 0), (.c 0), (.c 0), (.c 0), (.c 2), (.c 0)] rfl (by kernel_rfl)

theorem argJ242 (val : Nat → Int) (h : Holds val [.le (.a 6) (-1), .is (.a 5) 5, .ne (.a 5) 0, .is (.a 4) 0, .is (.a 3) 8, .ne (.a 3) 0, .is (.a 9) 8, .ne (.a 9) 4, .ne (.a 9) 2, .ne (.a 9) 1, .ne (.a 9) 0, .le (.a 8) 2147483647, .ge (.a 8) (-2147483648), .is (.a 0) 2, .ne (.a 0) 1]) : ArgJ val :=
  leaf h [(.c 0), (.c 0), (.c 0), (.c 0), (.c 0), (.c 0), (.c 0), (.c 0), (.c 0), (.c 0), (.c 0), (.c 2), (.c 0)] rfl (by kernel_rfl)

theorem argJ243 (val : Nat → Int) (h : Holds val [.ne (.a 5) 5, .ne (.a 5) 0, .is (.a 4) 0, .is (.a 3) 8, .ne (.a 3) 0, .is (.a 9) 8, .ne (.a 9) 4, .ne (.a 9) 2, .ne (.a 9) 1, .ne (.a 9) 0, .le (.a 8) 2147483647, .ge (.a 8) (-2147483648), .is (.a 0) 2, .ne (.a 0) 1]) : ArgJ val :=
  leaf h [(.c 0), (.c 0), (.c 0), (.c 0), (.c 0), (.c 0), (.c 0), (.c 0), (.c 0), (.c 0), (.c 0), (.c 2), (.c 0)] rfl (by kernel_rfl)

end Go.Proofs.Ytclhjdddakmafaa.Tab
