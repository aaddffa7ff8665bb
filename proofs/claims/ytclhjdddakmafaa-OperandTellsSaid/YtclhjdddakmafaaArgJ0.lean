/-
  Ways through the code, part 0.
-/
import Derived.Test.YtclhjdddakmafaaArgJH
namespace Go.Proofs.Ytclhjdddakmafaa.Tab
open Go.Sim
set_option maxRecDepth 100000

theorem argJ0 (val : Nat → Int) (h : Holds val [.le (.a 2) 7, .ge (.a 2) 4, .is (.a 1) 2, .is (.a 0) 1]) : ArgJ val :=
  leaf h [(.a 0), (.a 1), (.a 2), (.c 0), (.c 0), (.c 0), (.c 0), (.c 0), (.c 0), (.c 0), (.c 0), (.c 0), (.c 1)] rfl (by kernel_rfl)

theorem argJ1 (val : Nat → Int) (h : Holds val [.ge (.a 2) 8, .ge (.a 2) 4, .is (.a 1) 2, .is (.a 0) 1]) : ArgJ val :=
  leaf h [(.c 0), (.c 0), (.c 0), (.c 0), (.c 0), (.c 0), (.c 0), (.c 0), (.c 0), (.c 0), (.c 0), (.c 2), (.c 0)] rfl (by kernel_rfl)

theorem argJ2 (val : Nat → Int) (h : Holds val [.le (.a 2) 3, .is (.a 1) 2, .is (.a 0) 1]) : ArgJ val :=
  leaf h [(.c 0), (.c 0), (.c 0), (.c 0), (.c 0), (.c 0), (.c 0), (.c 0), (.c 0), (.c 0), (.c 0), (.c 2), (.c 0)] rfl (by kernel_rfl)

theorem argJ3 (val : Nat → Int) (h : Holds val [.is (.a 2) 0, .le (.a 2) 0, .ge (.a 2) 0, .is (.a 1) 8, .ne (.a 1) 2, .is (.a 0) 1]) : ArgJ val :=
  leaf h [(.c 0), (.c 0), (.c 0), (.c 0), (.c 0), (.c 0), (.c 0), (.c 0), (.c 0), (.c 0), (.c 0), (.c 2), (.c 0)] rfl (by kernel_rfl)

theorem argJ4 (val : Nat → Int) (h : Holds val [.ne (.a 2) 0, .le (.a 2) 0, .ge (.a 2) 0, .is (.a 1) 8, .ne (.a 1) 2, .is (.a 0) 1]) : ArgJ val :=
  leaf h [(.c 0), (.c 0), (.c 0), (.c 0), (.c 0), (.c 0), (.c 0), (.c 0), (.c 0), (.c 0), (.c 0), (.c 2), (.c 0)] rfl (by kernel_rfl)

theorem argJ5 (val : Nat → Int) (h : Holds val [.ge (.a 2) 1, .ge (.a 2) 0, .is (.a 1) 8, .ne (.a 1) 2, .is (.a 0) 1]) : ArgJ val :=
  leaf h [(.c 0), (.c 0), (.c 0), (.c 0), (.c 0), (.c 0), (.c 0), (.c 0), (.c 0), (.c 0), (.c 0), (.c 2), (.c 0)] rfl (by kernel_rfl)

theorem argJ6 (val : Nat → Int) (h : Holds val [.le (.a 2) (-1), .is (.a 1) 8, .ne (.a 1) 2, .is (.a 0) 1]) : ArgJ val :=
  leaf h [(.c 0), (.c 0), (.c 0), (.c 0), (.c 0), (.c 0), (.c 0), (.c 0), (.c 0), (.c 0), (.c 0), (.c 2), (.c 0)] rfl (by kernel_rfl)

theorem argJ7 (val : Nat → Int) (h : Holds val [.le (.a 2) 15, .ge (.a 2) 0, .is (.a 1) 1, .ne (.a 1) 8, .ne (.a 1) 2, .is (.a 0) 1]) : ArgJ val :=
  leaf h [(.a 0), (.a 1), (.a 2), (.c 0), (.c 0), (.c 0), (.c 0), (.c 0), (.c 0), (.c 0), (.c 0), (.c 0), (.c 1)] rfl (by kernel_rfl)

theorem argJ8 (val : Nat → Int) (h : Holds val [.ge (.a 2) 16, .ge (.a 2) 0, .is (.a 1) 1, .ne (.a 1) 8, .ne (.a 1) 2, .is (.a 0) 1]) : ArgJ val :=
  leaf h [(.c 0), (.c 0), (.c 0), (.c 0), (.c 0), (.c 0), (.c 0), (.c 0), (.c 0), (.c 0), (.c 0), (.c 2), (.c 0)] rfl (by kernel_rfl)

theorem argJ9 (val : Nat → Int) (h : Holds val [.le (.a 2) (-1), .is (.a 1) 1, .ne (.a 1) 8, .ne (.a 1) 2, .is (.a 0) 1]) : ArgJ val :=
  leaf h [(.c 0), (.c 0), (.c 0), (.c 0), (.c 0), (.c 0), (.c 0), (.c 0), (.c 0), (.c 0), (.c 0), (.c 2), (.c 0)] rfl (by kernel_rfl)

theorem argJ10 (val : Nat → Int) (h : Holds val [.le (.a 2) 15, .ge (.a 2) 0, .is (.a 1) 3, .ne (.a 1) 1, .ne (.a 1) 8, .ne (.a 1) 2, .is (.a 0) 1]) : ArgJ val :=
  leaf h [(.a 0), (.a 1), (.a 2), (.c 0), (.c 0), (.c 0), (.c 0), (.c 0), (.c 0), (.c 0), (.c 0), (.c 0), (.c 2)] rfl (by kernel_rfl)

theorem argJ11 (val : Nat → Int) (h : Holds val [.ge (.a 2) 16, .ge (.a 2) 0, .is (.a 1) 3, .ne (.a 1) 1, .ne (.a 1) 8, .ne (.a 1) 2, .is (.a 0) 1]) : ArgJ val :=
  leaf h [(.c 0), (.c 0), (.c 0), (.c 0), (.c 0), (.c 0), (.c 0), (.c 0), (.c 0), (.c 0), (.c 0), (.c 2), (.c 0)] rfl (by kernel_rfl)

theorem argJ12 (val : Nat → Int) (h : Holds val [.le (.a 2) (-1), .is (.a 1) 3, .ne (.a 1) 1, .ne (.a 1) 8, .ne (.a 1) 2, .is (.a 0) 1]) : ArgJ val :=
  leaf h [(.c 0), (.c 0), (.c 0), (.c 0), (.c 0), (.c 0), (.c 0), (.c 0), (.c 0), (.c 0), (.c 0), (.c 2), (.c 0)] rfl (by kernel_rfl)

theorem argJ13 (val : Nat → Int) (h : Holds val [.le (.a 2) 15, .ge (.a 2) 0, .is (.a 1) 4, .ne (.a 1) 3, .ne (.a 1) 1, .ne (.a 1) 8, .ne (.a 1) 2, .is (.a 0) 1]) : ArgJ val :=
  leaf h [(.a 0), (.a 1), (.a 2), (.c 0), (.c 0), (.c 0), (.c 0), (.c 0), (.c 0), (.c 0), (.c 0), (.c 0), (.c 4)] rfl (by kernel_rfl)

theorem argJ14 (val : Nat → Int) (h : Holds val [.ge (.a 2) 16, .ge (.a 2) 0, .is (.a 1) 4, .ne (.a 1) 3, .ne (.a 1) 1, .ne (.a 1) 8, .ne (.a 1) 2, .is (.a 0) 1]) : ArgJ val :=
  leaf h [(.c 0), (.c 0), (.c 0), (.c 0), (.c 0), (.c 0), (.c 0), (.c 0), (.c 0), (.c 0), (.c 0), (.c 2), (.c 0)] rfl (by kernel_rfl)

theorem argJ15 (val : Nat → Int) (h : Holds val [.le (.a 2) (-1), .is (.a 1) 4, .ne (.a 1) 3, .ne (.a 1) 1, .ne (.a 1) 8, .ne (.a 1) 2, .is (.a 0) 1]) : ArgJ val :=
  leaf h [(.c 0), (.c 0), (.c 0), (.c 0), (.c 0), (.c 0), (.c 0), (.c 0), (.c 0), (.c 0), (.c 0), (.c 2), (.c 0)] rfl (by kernel_rfl)

theorem argJ16 (val : Nat → Int) (h : Holds val [.le (.a 2) 15, .ge (.a 2) 0, .is (.a 1) 5, .ne (.a 1) 4, .ne (.a 1) 3, .ne (.a 1) 1, .ne (.a 1) 8, .ne (.a 1) 2, .is (.a 0) 1]) : ArgJ val :=
  leaf h [(.a 0), (.a 1), (.a 2), (.c 0), (.c 0), (.c 0), (.c 0), (.c 0), (.c 0), (.c 0), (.c 0), (.c 0), (.c 8)] rfl (by kernel_rfl)

theorem argJ17 (val : Nat → Int) (h : Holds val [.ge (.a 2) 16, .ge (.a 2) 0, .is (.a 1) 5, .ne (.a 1) 4, .ne (.a 1) 3, .ne (.a 1) 1, .ne (.a 1) 8, .ne (.a 1) 2, .is (.a 0) 1]) : ArgJ val :=
  leaf h [(.c 0), (.c 0), (.c 0), (.c 0), (.c 0), (.c 0), (.c 0), (.c 0), (.c 0), (.c 0), (.c 0), (.c 2), (.c 0)] rfl (by kernel_rfl)

theorem argJ18 (val : Nat → Int) (h : Holds val [.le (.a 2) (-1), .is (.a 1) 5, .ne (.a 1) 4, .ne (.a 1) 3, .ne (.a 1) 1, .ne (.a 1) 8, .ne (.a 1) 2, .is (.a 0) 1]) : ArgJ val :=
  leaf h [(.c 0), (.c 0), (.c 0), (.c 0), (.c 0), (.c 0), (.c 0), (.c 0), (.c 0), (.c 0), (.c 0), (.c 2), (.c 0)] rfl (by kernel_rfl)

theorem argJ19 (val : Nat → Int) (h : Holds val [.le (.a 2) 15, .ge (.a 2) 0, .is (.a 1) 6, .ne (.a 1) 5, .ne (.a 1) 4, .ne (.a 1) 3, .ne (.a 1) 1, .ne (.a 1) 8, .ne (.a 1) 2, .is (.a 0) 1]) : ArgJ val :=
  leaf h [(.a 0), (.a 1), (.a 2), (.c 0), (.c 0), (.c 0), (.c 0), (.c 0), (.c 0), (.c 0), (.c 0), (.c 0), (.c 16)] rfl (by kernel_rfl)

theorem argJ20 (val : Nat → Int) (h : Holds val [.ge (.a 2) 16, .ge (.a 2) 0, .is (.a 1) 6, .ne (.a 1) 5, .ne (.a 1) 4, .ne (.a 1) 3, .ne (.a 1) 1, .ne (.a 1) 8, .ne (.a 1) 2, .is (.a 0) 1]) : ArgJ val :=
  leaf h [(.c 0), (.c 0), (.c 0), (.c 0), (.c 0), (.c 0), (.c 0), (.c 0), (.c 0), (.c 0), (.c 0), (.c 2), (.c 0)] rfl (by kernel_rfl)

theorem argJ21 (val : Nat → Int) (h : Holds val [.le (.a 2) (-1), .is (.a 1) 6, .ne (.a 1) 5, .ne (.a 1) 4, .ne (.a 1) 3, .ne (.a 1) 1, .ne (.a 1) 8, .ne (.a 1) 2, .is (.a 0) 1]) : ArgJ val :=
  leaf h [(.c 0), (.c 0), (.c 0), (.c 0), (.c 0), (.c 0), (.c 0), (.c 0), (.c 0), (.c 0), (.c 0), (.c 2), (.c 0)] rfl (by kernel_rfl)

theorem argJ22 (val : Nat → Int) (h : Holds val [.le (.a 2) 15, .ge (.a 2) 0, .is (.a 1) 7, .ne (.a 1) 6, .ne (.a 1) 5, .ne (.a 1) 4, .ne (.a 1) 3, .ne (.a 1) 1, .ne (.a 1) 8, .ne (.a 1) 2, .is (.a 0) 1]) : ArgJ val :=
  leaf h [(.a 0), (.a 1), (.a 2), (.c 0), (.c 0), (.c 0), (.c 0), (.c 0), (.c 0), (.c 0), (.c 0), (.c 0), (.c 32)] rfl (by kernel_rfl)

theorem argJ23 (val : Nat → Int) (h : Holds val [.ge (.a 2) 16, .ge (.a 2) 0, .is (.a 1) 7, .ne (.a 1) 6, .ne (.a 1) 5, .ne (.a 1) 4, .ne (.a 1) 3, .ne (.a 1) 1, .ne (.a 1) 8, .ne (.a 1) 2, .is (.a 0) 1]) : ArgJ val :=
  leaf h [(.c 0), (.c 0), (.c 0), (.c 0), (.c 0), (.c 0), (.c 0), (.c 0), (.c 0), (.c 0), (.c 0), (.c 2), (.c 0)] rfl (by kernel_rfl)

theorem argJ24 (val : Nat → Int) (h : Holds val [.le (.a 2) (-1), .is (.a 1) 7, .ne (.a 1) 6, .ne (.a 1) 5, .ne (.a 1) 4, .ne (.a 1) 3, .ne (.a 1) 1, .ne (.a 1) 8, .ne (.a 1) 2, .is (.a 0) 1]) : ArgJ val :=
  leaf h [(.c 0), (.c 0), (.c 0), (.c 0), (.c 0), (.c 0), (.c 0), (.c 0), (.c 0), (.c 0), (.c 0), (.c 2), (.c 0)] rfl (by kernel_rfl)

theorem argJ25 (val : Nat → Int) (h : Holds val [.ge (.a 2) 0, .ne (.a 1) 7, .ne (.a 1) 6, .ne (.a 1) 5, .ne (.a 1) 4, .ne (.a 1) 3, .ne (.a 1) 1, .ne (.a 1) 8, .ne (.a 1) 2, .is (.a 0) 1]) : ArgJ val :=
  leaf h [(.c 0), (.c 0), (.c 0), (.c 0), (.c 0), (.c 0), (.c 0), (.c 0), (.c 0), (.c 0), (.c 0), (.c 2), (.c 0)] rfl (by kernel_rfl)

theorem argJ26 (val : Nat → Int) (h : Holds val [.le (.a 2) (-1), .ne (.a 1) 7, .ne (.a 1) 6, .ne (.a 1) 5, .ne (.a 1) 4, .ne (.a 1) 3, .ne (.a 1) 1, .ne (.a 1) 8, .ne (.a 1) 2, .is (.a 0) 1]) : ArgJ val :=
  leaf h [(.c 0), (.c 0), (.c 0), (.c 0), (.c 0), (.c 0), (.c 0), (.c 0), (.c 0), (.c 0), (.c 0), (.c 2), (.c 0)] rfl (by kernel_rfl)

theorem argJ27 (val : Nat → Int) (h : Holds val [.le (.a 8) (-2147483649), .is (.a 0) 2, .ne (.a 0) 1]) : ArgJ val :=
  leaf h [(.c 0), (.c 0), (.c 0), (.c 0), (.c 0), (.c 0), (.c 0), (.c 0), (.c 0), (.c 0), (.c 0), (.c 5), (.c 0)] rfl (by kernel_rfl)

theorem argJ28 (val : Nat → Int) (h : Holds val [.ge (.a 8) 2147483648, .ge (.a 8) (-2147483648), .is (.a 0) 2, .ne (.a 0) 1]) : ArgJ val :=
  leaf h [(.c 0), (.c 0), (.c 0), (.c 0), (.c 0), (.c 0), (.c 0), (.c 0), (.c 0), (.c 0), (.c 0), (.c 5), (.c 0)] rfl (by kernel_rfl)

theorem argJ29 (val : Nat → Int) (h : Holds val [.is (.a 7) 0, .is (.a 6) 0, .is (.a 5) 0, .is (.a 4) 0, .is (.a 3) 0, .is (.a 9) 0, .le (.a 8) 2147483647, .ge (.a 8) (-2147483648), .is (.a 0) 2, .ne (.a 0) 1]) : ArgJ val :=
  leaf h [(.a 0), (.c 0), (.c 0), (.a 3), (.a 4), (.a 5), (.a 6), (.a 7), (.a 8), (.a 9), (.c 0), (.c 0), (.a 9)] rfl (by kernel_rfl)

theorem argJ30 (val : Nat → Int) (h : Holds val [.ne (.a 7) 0, .is (.a 6) 0, .is (.a 5) 0, .is (.a 4) 0, .is (.a 3) 0, .is (.a 9) 0, .le (.a 8) 2147483647, .ge (.a 8) (-2147483648), .is (.a 0) 2, .ne (.a 0) 1]) : ArgJ val :=
  leaf h [(.c 0), (.c 0), (.c 0), (.c 0), (.c 0), (.c 0), (.c 0), (.c 0), (.c 0), (.c 0), (.c 0), (.c 2), (.c 0)] rfl (by kernel_rfl)

theorem argJ31 (val : Nat → Int) (h : Holds val [.ne (.a 6) 0, .is (.a 5) 0, .is (.a 4) 0, .is (.a 3) 0, .is (.a 9) 0, .le (.a 8) 2147483647, .ge (.a 8) (-2147483648), .is (.a 0) 2, .ne (.a 0) 1]) : ArgJ val :=
  leaf h [(.c 0), (.c 0), (.c 0), (.c 0), (.c 0), (.c 0), (.c 0), (.c 0), (.c 0), (.c 0), (.c 0), (.c 2), (.c 0)] rfl (by kernel_rfl)

theorem argJ32 (val : Nat → Int) (h : Holds val [.is (.a 6) 4, .is (.a 7) 1, .le (.a 6) 15, .ge (.a 6) 0, .is (.a 5) 5, .ne (.a 5) 0, .is (.a 4) 0, .is (.a 3) 0, .is (.a 9) 0, .le (.a 8) 2147483647, .ge (.a 8) (-2147483648), .is (.a 0) 2, .ne (.a 0) 1]) : ArgJ val :=
  leaf h [(.a 0), (.c 0), (.c 0), (.a 5), (.a 6), (.c 0), (.c 0), (.c 0), (.a 8), (.a 9), (.c 0), (.c 0), (.a 9)] rfl (by kernel_rfl)

theorem argJ33 (val : Nat → Int) (h : Holds val [.ne (.a 6) 4, .is (.a 7) 1, .le (.a 6) 15, .ge (.a 6) 0, .is (.a 5) 5, .ne (.a 5) 0, .is (.a 4) 0, .is (.a 3) 0, .is (.a 9) 0, .le (.a 8) 2147483647, .ge (.a 8) (-2147483648), .is (.a 0) 2, .ne (.a 0) 1]) : ArgJ val :=
  leaf h [(.a 0), (.c 0), (.c 0), (.a 5), (.a 6), (.c 0), (.c 0), (.c 0), (.a 8), (.a 9), (.c 0), (.c 0), (.a 9)] rfl (by kernel_rfl)

theorem argJ34 (val : Nat → Int) (h : Holds val [.is (.a 6) 4, .is (.a 7) 2, .ne (.a 7) 1, .le (.a 6) 15, .ge (.a 6) 0, .is (.a 5) 5, .ne (.a 5) 0, .is (.a 4) 0, .is (.a 3) 0, .is (.a 9) 0, .le (.a 8) 2147483647, .ge (.a 8) (-2147483648), .is (.a 0) 2, .ne (.a 0) 1]) : ArgJ val :=
  leaf h [(.c 0), (.c 0), (.c 0), (.c 0), (.c 0), (.c 0), (.c 0), (.c 0), (.c 0), (.c 0), (.c 0), (.c 2), (.c 0)] rfl (by kernel_rfl)

theorem argJ35 (val : Nat → Int) (h : Holds val [.ne (.a 6) 4, .is (.a 7) 2, .ne (.a 7) 1, .le (.a 6) 15, .ge (.a 6) 0, .is (.a 5) 5, .ne (.a 5) 0, .is (.a 4) 0, .is (.a 3) 0, .is (.a 9) 0, .le (.a 8) 2147483647, .ge (.a 8) (-2147483648), .is (.a 0) 2, .ne (.a 0) 1]) : ArgJ val :=
  leaf h [(.a 0), (.c 0), (.c 0), (.a 3), (.a 4), (.a 5), (.a 6), (.a 7), (.a 8), (.a 9), (.c 0), (.c 0), (.a 9)] rfl (by kernel_rfl)

theorem argJ36 (val : Nat → Int) (h : Holds val [.is (.a 6) 4, .is (.a 7) 4, .ne (.a 7) 2, .ne (.a 7) 1, .le (.a 6) 15, .ge (.a 6) 0, .is (.a 5) 5, .ne (.a 5) 0, .is (.a 4) 0, .is (.a 3) 0, .is (.a 9) 0, .le (.a 8) 2147483647, .ge (.a 8) (-2147483648), .is (.a 0) 2, .ne (.a 0) 1]) : ArgJ val :=
  leaf h [(.c 0), (.c 0), (.c 0), (.c 0), (.c 0), (.c 0), (.c 0), (.c 0), (.c 0), (.c 0), (.c 0), (.c 2), (.c 0)] rfl (by kernel_rfl)

theorem argJ37 (val : Nat → Int) (h : Holds val [.ne (.a 6) 4, .is (.a 7) 4, .ne (.a 7) 2, .ne (.a 7) 1, .le (.a 6) 15, .ge (.a 6) 0, .is (.a 5) 5, .ne (.a 5) 0, .is (.a 4) 0, .is (.a 3) 0, .is (.a 9) 0, .le (.a 8) 2147483647, .ge (.a 8) (-2147483648), .is (.a 0) 2, .ne (.a 0) 1]) : ArgJ val :=
  leaf h [(.a 0), (.c 0), (.c 0), (.a 3), (.a 4), (.a 5), (.a 6), (.a 7), (.a 8), (.a 9), (.c 0), (.c 0), (.a 9)] rfl (by kernel_rfl)

theorem argJ38 (val : Nat → Int) (h : Holds val [.is (.a 6) 4, .is (.a 7) 8, .ne (.a 7) 4, .ne (.a 7) 2, .ne (.a 7) 1, .le (.a 6) 15, .ge (.a 6) 0, .is (.a 5) 5, .ne (.a 5) 0, .is (.a 4) 0, .is (.a 3) 0, .is (.a 9) 0, .le (.a 8) 2147483647, .ge (.a 8) (-2147483648), .is (.a 0) 2, .ne (.a 0) 1]) : ArgJ val :=
  leaf h [(.c 0), (.c 0), (.c 0), (.c 0), (.c 0), (.c 0), (.c 0), (.c 0), (.c 0), (.c 0), (.c 0), (.c 2), (.c 0)] rfl (by kernel_rfl)

theorem argJ39 (val : Nat → Int) (h : Holds val [.ne (.a 6) 4, .is (.a 7) 8, .ne (.a 7) 4, .ne (.a 7) 2, .ne (.a 7) 1, .le (.a 6) 15, .ge (.a 6) 0, .is (.a 5) 5, .ne (.a 5) 0, .is (.a 4) 0, .is (.a 3) 0, .is (.a 9) 0, .le (.a 8) 2147483647, .ge (.a 8) (-2147483648), .is (.a 0) 2, .ne (.a 0) 1]) : ArgJ val :=
  leaf h [(.a 0), (.c 0), (.c 0), (.a 3), (.a 4), (.a 5), (.a 6), (.a 7), (.a 8), (.a 9), (.c 0), (.c 0), (.a 9)] rfl (by kernel_rfl)

theorem argJ40 (val : Nat → Int) (h : Holds val [.ne (.a 7) 8, .ne (.a 7) 4, .ne (.a 7) 2, .ne (.a 7) 1, .le (.a 6) 15, .ge (.a 6) 0, .is (.a 5) 5, .ne (.a 5) 0, .is (.a 4) 0, .is (.a 3) 0, .is (.a 9) 0, .le (.a 8) 2147483647, .ge (.a 8) (-2147483648), .is (.a 0) 2, .ne (.a 0) 1]) : ArgJ val :=
  leaf h [(.c 0), (.c 0), (.c 0), (.c 0), (.c 0), (.c 0), (.c 0), (.c 0), (.c 0), (.c 0), (.c 0), (.c 2), (.c 0)] rfl (by kernel_rfl)

theorem argJ41 (val : Nat → Int) (h : Holds val [.ge (.a 6) 16, .ge (.a 6) 0, .is (.a 5) 5, .ne (.a 5) 0, .is (.a 4) 0, .is (.a 3) 0, .is (.a 9) 0, .le (.a 8) 2147483647, .ge (.a 8) (-2147483648), .is (.a 0) 2, .ne (.a 0) 1]) : ArgJ val :=
  leaf h [(.c 0), (.c 0), (.c 0), (.c 0), (.c 0), (.c 0), (.c 0), (.c 0), (.c 0), (.c 0), (.c 0), (.c 2), (.c 0)] rfl (by kernel_rfl)

theorem argJ42 (val : Nat → Int) (h : Holds val [.le (.a 6) (-1), .is (.a 5) 5, .ne (.a 5) 0, .is (.a 4) 0, .is (.a 3) 0, .is (.a 9) 0, .le (.a 8) 2147483647, .ge (.a 8) (-2147483648), .is (.a 0) 2, .ne (.a 0) 1]) : ArgJ val :=
  leaf h [(.c 0), (.c 0), (.c 0), (.c 0), (.c 0), (.c 0), (.c 0), (.c 0), (.c 0), (.c 0), (.c 0), (.c 2), (.c 0)] rfl (by kernel_rfl)

theorem argJ43 (val : Nat → Int) (h : Holds val [.ne (.a 5) 5, .ne (.a 5) 0, .is (.a 4) 0, .is (.a 3) 0, .is (.a 9) 0, .le (.a 8) 2147483647, .ge (.a 8) (-2147483648), .is (.a 0) 2, .ne (.a 0) 1]) : ArgJ val :=
  leaf h [(.c 0), (.c 0), (.c 0), (.c 0), (.c 0), (.c 0), (.c 0), (.c 0), (.c 0), (.c 0), (.c 0), (.c 2), (.c 0)] rfl (by kernel_rfl)

theorem argJ44 (val : Nat → Int) (h : Holds val [.ne (.a 4) 0, .is (.a 3) 0, .is (.a 9) 0, .le (.a 8) 2147483647, .ge (.a 8) (-2147483648), .is (.a 0) 2, .ne (.a 0) 1]) : ArgJ val :=
  leaf h [(.c 0), (.c 0), (.c 0), (.c 0), (.c 0), (.c 0), (.c 0), (.c 0), (.c 0), (.c 0), (.c 0), (.c 2), (.c 0)] rfl (by kernel_rfl)

theorem argJ45 (val : Nat → Int) (h : Holds val [.is (.a 7) 0, .is (.a 6) 0, .is (.a 5) 0, .is (.a 4) 0, .is (.a 3) 8, .ne (.a 3) 0, .is (.a 9) 0, .le (.a 8) 2147483647, .ge (.a 8) (-2147483648), .is (.a 0) 2, .ne (.a 0) 1]) : ArgJ val :=
  leaf h [(.a 0), (.c 0), (.c 0), (.a 3), (.a 4), (.a 5), (.a 6), (.a 7), (.a 8), (.a 9), (.c 0), (.c 0), (.a 9)] rfl (by kernel_rfl)

theorem argJ46 (val : Nat → Int) (h : Holds val [.ne (.a 7) 0, .is (.a 6) 0, .is (.a 5) 0, .is (.a 4) 0, .is (.a 3) 8, .ne (.a 3) 0, .is (.a 9) 0, .le (.a 8) 2147483647, .ge (.a 8) (-2147483648), .is (.a 0) 2, .ne (.a 0) 1]) : ArgJ val :=
  leaf h [(.c 0), (.c 0), (.c 0), (.c 0), (.c 0), (.c 0), (.c 0), (.c 0), (.c 0), (.c 0), (.c 0), (.c 2), (.c 0)] rfl (by kernel_rfl)

theorem argJ47 (val : Nat → Int) (h : Holds val [.ne (.a 6) 0, .is (.a 5) 0, .is (.a 4) 0, .is (.a 3) 8, .ne (.a 3) 0, .is (.a 9) 0, .le (.a 8) 2147483647, .ge (.a 8) (-2147483648), .is (.a 0) 2, .ne (.a 0) 1]) : ArgJ val :=
  leaf h [(.c 0), (.c 0), (.c 0), (.c 0), (.c 0), (.c 0), (.c 0), (.c 0), (.c 0), (.c 0), (.c 0), (.c 2), (.c 0)] rfl (by kernel_rfl)

theorem argJ48 (val : Nat → Int) (h : Holds val [.is (.a 7) 1, .le (.a 6) 15, .ge (.a 6) 0, .is (.a 5) 5, .ne (.a 5) 0, .is (.a 4) 0, .is (.a 3) 8, .ne (.a 3) 0, .is (.a 9) 0, .le (.a 8) 2147483647, .ge (.a 8) (-2147483648), .is (.a 0) 2, .ne (.a 0) 1]) : ArgJ val :=
  leaf h [(.c 0), (.c 0), (.c 0), (.c 0), (.c 0), (.c 0), (.c 0), (.c 0), (.c 0), (.c 0), (.c 0), (.c 2), (.c 0)] rfl (by kernel_rfl)

theorem argJ49 (val : Nat → Int) (h : Holds val [.is (.a 7) 2, .ne (.a 7) 1, .le (.a 6) 15, .ge (.a 6) 0, .is (.a 5) 5, .ne (.a 5) 0, .is (.a 4) 0, .is (.a 3) 8, .ne (.a 3) 0, .is (.a 9) 0, .le (.a 8) 2147483647, .ge (.a 8) (-2147483648), .is (.a 0) 2, .ne (.a 0) 1]) : ArgJ val :=
  leaf h [(.c 0), (.c 0), (.c 0), (.c 0), (.c 0), (.c 0), (.c 0), (.c 0), (.c 0), (.c 0), (.c 0), (.c 2), (.c 0)] rfl (by kernel_rfl)

theorem argJ50 (val : Nat → Int) (h : Holds val [.is (.a 7) 4, .ne (.a 7) 2, .ne (.a 7) 1, .le (.a 6) 15, .ge (.a 6) 0, .is (.a 5) 5, .ne (.a 5) 0, .is (.a 4) 0, .is (.a 3) 8, .ne (.a 3) 0, .is (.a 9) 0, .le (.a 8) 2147483647, .ge (.a 8) (-2147483648), .is (.a 0) 2, .ne (.a 0) 1]) : ArgJ val :=
  leaf h [(.c 0), (.c 0), (.c 0), (.c 0), (.c 0), (.c 0), (.c 0), (.c 0), (.c 0), (.c 0), (.c 0), (.c 2), (.c 0)] rfl (by kernel_rfl)

theorem argJ51 (val : Nat → Int) (h : Holds val [.is (.a 7) 8, .ne (.a 7) 4, .ne (.a 7) 2, .ne (.a 7) 1, .le (.a 6) 15, .ge (.a 6) 0, .is (.a 5) 5, .ne (.a 5) 0, .is (.a 4) 0, .is (.a 3) 8, .ne (.a 3) 0, .is (.a 9) 0, .le (.a 8) 2147483647, .ge (.a 8) (-2147483648), .is (.a 0) 2, .ne (.a 0) 1]) : ArgJ val :=
  leaf h [(.c 0), (.c 0), (.c 0), (.c 0), (.c 0), (.c 0), (.c 0), (.c 0), (.c 0), (.c 0), (.c 0), (.c 2), (.c 0)] rfl (by kernel_rfl)

theorem argJ52 (val : Nat → Int) (h : Holds val [.ne (.a 7) 8, .ne (.a 7) 4, .ne (.a 7) 2, .ne (.a 7) 1, .le (.a 6) 15, .ge (.a 6) 0, .is (.a 5) 5, .ne (.a 5) 0, .is (.a 4) 0, .is (.a 3) 8, .ne (.a 3) 0, .is (.a 9) 0, .le (.a 8) 2147483647, .ge (.a 8) (-2147483648), .is (.a 0) 2, .ne (.a 0) 1]) : ArgJ val :=
  leaf h [(.c 0), (.c 0), (.c 0), (.c 0), (.c 0), (.c 0), (.c 0), (.c 0), (.c 0), (.c 0), (.c 0), (.c 2), (.c 0)] rfl (by kernel_rfl)

theorem argJ53 (val : Nat → Int) (h : Holds val [.ge (.a 6) 16, .ge (.a 6) 0, .is (.a 5) 5, .ne (.a 5) 0, .is (.a 4) 0, .is (.a 3) 8, .ne (.a 3) 0, .is (.a 9) 0, .le (.a 8) 2147483647, .ge (.a 8) (-2147483648), .is (.a 0) 2, .ne (.a 0) 1]) : ArgJ val :=
  leaf h [(.c 0), (.c 0), (.c 0), (.c 0), (.c 0), (.c 0), (.c 0), (.c 0), (.c 0), (.c 0), (.c 0), (.c 2), (.c 0)] rfl (by kernel_rfl)

theorem argJ54 (val : Nat → Int) (h : Holds val [.le (.a 6) (-1), .is (.a 5) 5, .ne (.a 5) 0, .is (.a 4) 0, .is (.a 3) 8, .ne (.a 3) 0, .is (.a 9) 0, .le (.a 8) 2147483647, .ge (.a 8) (-2147483648), .is (.a 0) 2, .ne (.a 0) 1]) : ArgJ val :=
  leaf h [(.c 0), (.c 0), (.c 0), (.c 0), (.c 0), (.c 0), (.c 0), (.c 0), (.c 0), (.c 0), (.c 0), (.c 2), (.c 0)] rfl (by kernel_rfl)

theorem argJ55 (val : Nat → Int) (h : Holds val [.ne (.a 5) 5, .ne (.a 5) 0, .is (.a 4) 0, .is (.a 3) 8, .ne (.a 3) 0, .is (.a 9) 0, .le (.a 8) 2147483647, .ge (.a 8) (-2147483648), .is (.a 0) 2, .ne (.a 0) 1]) : ArgJ val :=
  leaf h [(.c 0), (.c 0), (.c 0), (.c 0), (.c 0), (.c 0), (.c 0), (.c 0), (.c 0), (.c 0), (.c 0), (.c 2), (.c 0)] rfl (by kernel_rfl)

theorem argJ56 (val : Nat → Int) (h : Holds val [.ne (.a 4) 0, .is (.a 3) 8, .ne (.a 3) 0, .is (.a 9) 0, .le (.a 8) 2147483647, .ge (.a 8) (-2147483648), .is (.a 0) 2, .ne (.a 0) 1]) : ArgJ val :=
  leaf h [(.c 0), (.c 0), (.c 0), (.c 0), (.c 0), (.c 0), (.c 0), (.c 0), (.c 0), (.c 0), (.c 0), (.c 2), (.c 0)] rfl (by kernel_rfl)

theorem argJ57 (val : Nat → Int) (h : Holds val [.is (.a 7) 0, .is (.a 6) 0, .is (.a 5) 0, .le (.a 4) 15, .ge (.a 4) 0, .is (.a 3) 5, .ne (.a 3) 8, .ne (.a 3) 0, .is (.a 9) 0, .le (.a 8) 2147483647, .ge (.a 8) (-2147483648), .is (.a 0) 2, .ne (.a 0) 1]) : ArgJ val :=
  leaf h [(.a 0), (.c 0), (.c 0), (.a 3), (.a 4), (.a 5), (.a 6), (.a 7), (.a 8), (.a 9), (.c 0), (.c 0), (.a 9)] rfl (by kernel_rfl)

theorem argJ58 (val : Nat → Int) (h : Holds val [.ne (.a 7) 0, .is (.a 6) 0, .is (.a 5) 0, .le (.a 4) 15, .ge (.a 4) 0, .is (.a 3) 5, .ne (.a 3) 8, .ne (.a 3) 0, .is (.a 9) 0, .le (.a 8) 2147483647, .ge (.a 8) (-2147483648), .is (.a 0) 2, .ne (.a 0) 1]) : ArgJ val :=
  leaf h [(.c 0), (.c 0), (.c 0), (.c 0), (.c 0), (.c 0), (.c 0), (.c 0), (.c 0), (.c 0), (.c 0), (.c 2), (.c 0)] rfl (by kernel_rfl)

theorem argJ59 (val : Nat → Int) (h : Holds val [.ne (.a 6) 0, .is (.a 5) 0, .le (.a 4) 15, .ge (.a 4) 0, .is (.a 3) 5, .ne (.a 3) 8, .ne (.a 3) 0, .is (.a 9) 0, .le (.a 8) 2147483647, .ge (.a 8) (-2147483648), .is (.a 0) 2, .ne (.a 0) 1]) : ArgJ val :=
  leaf h [(.c 0), (.c 0), (.c 0), (.c 0), (.c 0), (.c 0), (.c 0), (.c 0), (.c 0), (.c 0), (.c 0), (.c 2), (.c 0)] rfl (by kernel_rfl)

theorem argJ60 (val : Nat → Int) (h : Holds val [.is (.a 4) 4, .is (.a 6) 4, .is (.a 7) 1, .le (.a 6) 15, .ge (.a 6) 0, .is (.a 5) 5, .ne (.a 5) 0, .le (.a 4) 15, .ge (.a 4) 0, .is (.a 3) 5, .ne (.a 3) 8, .ne (.a 3) 0, .is (.a 9) 0, .le (.a 8) 2147483647, .ge (.a 8) (-2147483648), .is (.a 0) 2, .ne (.a 0) 1]) : ArgJ val :=
  leaf h [(.c 0), (.c 0), (.c 0), (.c 0), (.c 0), (.c 0), (.c 0), (.c 0), (.c 0), (.c 0), (.c 0), (.c 2), (.c 0)] rfl (by kernel_rfl)

theorem argJ61 (val : Nat → Int) (h : Holds val [.ne (.a 4) 4, .is (.a 6) 4, .is (.a 7) 1, .le (.a 6) 15, .ge (.a 6) 0, .is (.a 5) 5, .ne (.a 5) 0, .le (.a 4) 15, .ge (.a 4) 0, .is (.a 3) 5, .ne (.a 3) 8, .ne (.a 3) 0, .is (.a 9) 0, .le (.a 8) 2147483647, .ge (.a 8) (-2147483648), .is (.a 0) 2, .ne (.a 0) 1]) : ArgJ val :=
  leaf h [(.a 0), (.c 0), (.c 0), (.a 5), (.a 6), (.a 3), (.a 4), (.a 7), (.a 8), (.a 9), (.c 0), (.c 0), (.a 9)] rfl (by kernel_rfl)

theorem argJ62 (val : Nat → Int) (h : Holds val [.ne (.a 6) 4, .is (.a 7) 1, .le (.a 6) 15, .ge (.a 6) 0, .is (.a 5) 5, .ne (.a 5) 0, .le (.a 4) 15, .ge (.a 4) 0, .is (.a 3) 5, .ne (.a 3) 8, .ne (.a 3) 0, .is (.a 9) 0, .le (.a 8) 2147483647, .ge (.a 8) (-2147483648), .is (.a 0) 2, .ne (.a 0) 1]) : ArgJ val :=
  leaf h [(.a 0), (.c 0), (.c 0), (.a 3), (.a 4), (.a 5), (.a 6), (.a 7), (.a 8), (.a 9), (.c 0), (.c 0), (.a 9)] rfl (by kernel_rfl)

theorem argJ63 (val : Nat → Int) (h : Holds val [.is (.a 6) 4, .is (.a 7) 2, .ne (.a 7) 1, .le (.a 6) 15, .ge (.a 6) 0, .is (.a 5) 5, .ne (.a 5) 0, .le (.a 4) 15, .ge (.a 4) 0, .is (.a 3) 5, .ne (.a 3) 8, .ne (.a 3) 0, .is (.a 9) 0, .le (.a 8) 2147483647, .ge (.a 8) (-2147483648), .is (.a 0) 2, .ne (.a 0) 1]) : ArgJ val :=
  leaf h [(.c 0), (.c 0), (.c 0), (.c 0), (.c 0), (.c 0), (.c 0), (.c 0), (.c 0), (.c 0), (.c 0), (.c 2), (.c 0)] rfl (by kernel_rfl)

theorem argJ64 (val : Nat → Int) (h : Holds val [.ne (.a 6) 4, .is (.a 7) 2, .ne (.a 7) 1, .le (.a 6) 15, .ge (.a 6) 0, .is (.a 5) 5, .ne (.a 5) 0, .le (.a 4) 15, .ge (.a 4) 0, .is (.a 3) 5, .ne (.a 3) 8, .ne (.a 3) 0, .is (.a 9) 0, .le (.a 8) 2147483647, .ge (.a 8) (-2147483648), .is (.a 0) 2, .ne (.a 0) 1]) : ArgJ val :=
  leaf h [(.a 0), (.c 0), (.c 0), (.a 3), (.a 4), (.a 5), (.a 6), (.a 7), (.a 8), (.a 9), (.c 0), (.c 0), (.a 9)] rfl (by kernel_rfl)

theorem argJ65 (val : Nat → Int) (h : Holds val [.is (.a 6) 4, .is (.a 7) 4, .ne (.a 7) 2, .ne (.a 7) 1, .le (.a 6) 15, .ge (.a 6) 0, .is (.a 5) 5, .ne (.a 5) 0, .le (.a 4) 15, .ge (.a 4) 0, .is (.a 3) 5, .ne (.a 3) 8, .ne (.a 3) 0, .is (.a 9) 0, .le (.a 8) 2147483647, .ge (.a 8) (-2147483648), .is (.a 0) 2, .ne (.a 0) 1]) : ArgJ val :=
  leaf h [(.c 0), (.c 0), (.c 0), (.c 0), (.c 0), (.c 0), (.c 0), (.c 0), (.c 0), (.c 0), (.c 0), (.c 2), (.c 0)] rfl (by kernel_rfl)

theorem argJ66 (val : Nat → Int) (h : Holds val [.ne (.a 6) 4, .is (.a 7) 4, .ne (.a 7) 2, .ne (.a 7) 1, .le (.a 6) 15, .ge (.a 6) 0, .is (.a 5) 5, .ne (.a 5) 0, .le (.a 4) 15, .ge (.a 4) 0, .is (.a 3) 5, .ne (.a 3) 8, .ne (.a 3) 0, .is (.a 9) 0, .le (.a 8) 2147483647, .ge (.a 8) (-2147483648), .is (.a 0) 2, .ne (.a 0) 1]) : ArgJ val :=
  leaf h [(.a 0), (.c 0), (.c 0), (.a 3), (.a 4), (.a 5), (.a 6), (.a 7), (.a 8), (.a 9), (.c 0), (.c 0), (.a 9)] rfl (by kernel_rfl)

theorem argJ67 (val : Nat → Int) (h : Holds val [.is (.a 6) 4, .is (.a 7) 8, .ne (.a 7) 4, .ne (.a 7) 2, .ne (.a 7) 1, .le (.a 6) 15, .ge (.a 6) 0, .is (.a 5) 5, .ne (.a 5) 0, .le (.a 4) 15, .ge (.a 4) 0, .is (.a 3) 5, .ne (.a 3) 8, .ne (.a 3) 0, .is (.a 9) 0, .le (.a 8) 2147483647, .ge (.a 8) (-2147483648), .is (.a 0) 2, .ne (.a 0) 1]) : ArgJ val :=
  leaf h [(.c 0), (.c 0), (.c 0), (.c 0), (.c 0), (.c 0), (.c 0), (.c 0), (.c 0), (.c 0), (.c 0), (.c 2), (.c 0)] rfl (by kernel_rfl)

theorem argJ68 (val : Nat → Int) (h : Holds val [.ne (.a 6) 4, .is (.a 7) 8, .ne (.a 7) 4, .ne (.a 7) 2, .ne (.a 7) 1, .le (.a 6) 15, .ge (.a 6) 0, .is (.a 5) 5, .ne (.a 5) 0, .le (.a 4) 15, .ge (.a 4) 0, .is (.a 3) 5, .ne (.a 3) 8, .ne (.a 3) 0, .is (.a 9) 0, .le (.a 8) 2147483647, .ge (.a 8) (-2147483648), .is (.a 0) 2, .ne (.a 0) 1]) : ArgJ val :=
  leaf h [(.a 0), (.c 0), (.c 0), (.a 3), (.a 4), (.a 5), (.a 6), (.a 7), (.a 8), (.a 9), (.c 0), (.c 0), (.a 9)] rfl (by kernel_rfl)

theorem argJ69 (val : Nat → Int) (h : Holds val [.ne (.a 7) 8, .ne (.a 7) 4, .ne (.a 7) 2, .ne (.a 7) 1, .le (.a 6) 15, .ge (.a 6) 0, .is (.a 5) 5, .ne (.a 5) 0, .le (.a 4) 15, .ge (.a 4) 0, .is (.a 3) 5, .ne (.a 3) 8, .ne (.a 3) 0, .is (.a 9) 0, .le (.a 8) 2147483647, .ge (.a 8) (-2147483648), .is (.a 0) 2, .ne (.a 0) 1]) : ArgJ val :=
  leaf h [(.c 0), (.c 0), (.c 0), (.c 0), (.c 0), (.c 0), (.c 0), (.c 0), (.c 0), (.c 0), (.c 0), (.c 2), (.c 0)] rfl (by kernel_rfl)

theorem argJ70 (val : Nat → Int) (h : Holds val [.ge (.a 6) 16, .ge (.a 6) 0, .is (.a 5) 5, .ne (.a 5) 0, .le (.a 4) 15, .ge (.a 4) 0, .is (.a 3) 5, .ne (.a 3) 8, .ne (.a 3) 0, .is (.a 9) 0, .le (.a 8) 2147483647, .ge (.a 8) (-2147483648), .is (.a 0) 2, .ne (.a 0) 1]) : ArgJ val :=
  leaf h [(.c 0), (.c 0), (.c 0), (.c 0), (.c 0), (.c 0), (.c 0), (.c 0), (.c 0), (.c 0), (.c 0), (.c 2), (.c 0)] rfl (by kernel_rfl)

theorem argJ71 (val : Nat → Int) (h : Holds val [.le (.a 6) (-1), .is (.a 5) 5, .ne (.a 5) 0, .le (.a 4) 15, .ge (.a 4) 0, .is (.a 3) 5, .ne (.a 3) 8, .ne (.a 3) 0, .is (.a 9) 0, .le (.a 8) 2147483647, .ge (.a 8) (-2147483648), .is (.a 0) 2, .ne (.a 0) 1]) : ArgJ val :=
  leaf h [(.c 0), (.c 0), (.c 0), (.c 0), (.c 0), (.c 0), (.c 0), (.c 0), (.c 0), (.c 0), (.c 0), (.c 2), (.c 0)] rfl (by kernel_rfl)

theorem argJ72 (val : Nat → Int) (h : Holds val [.ne (.a 5) 5, .ne (.a 5) 0, .le (.a 4) 15, .ge (.a 4) 0, .is (.a 3) 5, .ne (.a 3) 8, .ne (.a 3) 0, .is (.a 9) 0, .le (.a 8) 2147483647, .ge (.a 8) (-2147483648), .is (.a 0) 2, .ne (.a 0) 1]) : ArgJ val :=
  leaf h [(.c 0), (.c 0), (.c 0), (.c 0), (.c 0), (.c 0), (.c 0), (.c 0), (.c 0), (.c 0), (.c 0), (.c 2), (.c 0)] rfl (by kernel_rfl)

theorem argJ73 (val : Nat → Int) (h : Holds val [.ge (.a 4) 16, .ge (.a 4) 0, .is (.a 3) 5, .ne (.a 3) 8, .ne (.a 3) 0, .is (.a 9) 0, .le (.a 8) 2147483647, .ge (.a 8) (-2147483648), .is (.a 0) 2, .ne (.a 0) 1]) : ArgJ val :=
  leaf h [(.c 0), (.c 0), (.c 0), (.c 0), (.c 0), (.c 0), (.c 0), (.c 0), (.c 0), (.c 0), (.c 0), (.c 2), (.c 0)] rfl (by kernel_rfl)

theorem argJ74 (val : Nat → Int) (h : Holds val [.le (.a 4) (-1), .is (.a 3) 5, .ne (.a 3) 8, .ne (.a 3) 0, .is (.a 9) 0, .le (.a 8) 2147483647, .ge (.a 8) (-2147483648), .is (.a 0) 2, .ne (.a 0) 1]) : ArgJ val :=
  leaf h [(.c 0), (.c 0), (.c 0), (.c 0), (.c 0), (.c 0), (.c 0), (.c 0), (.c 0), (.c 0), (.c 0), (.c 2), (.c 0)] rfl (by kernel_rfl)

theorem argJ75 (val : Nat → Int) (h : Holds val [.ne (.a 3) 5, .ne (.a 3) 8, .ne (.a 3) 0, .is (.a 9) 0, .le (.a 8) 2147483647, .ge (.a 8) (-2147483648), .is (.a 0) 2, .ne (.a 0) 1]) : ArgJ val :=
  leaf h [(.c 0), (.c 0), (.c 0), (.c 0), (.c 0), (.c 0), (.c 0), (.c 0), (.c 0), (.c 0), (.c 0), (.c 2), (.c 0)] rfl (by kernel_rfl)

theorem argJ76 (val : Nat → Int) (h : Holds val [.is (.a 7) 0, .is (.a 6) 0, .is (.a 5) 0, .is (.a 4) 0, .is (.a 3) 0, .is (.a 9) 1, .ne (.a 9) 0, .le (.a 8) 2147483647, .ge (.a 8) (-2147483648), .is (.a 0) 2, .ne (.a 0) 1]) : ArgJ val :=
  leaf h [(.a 0), (.c 0), (.c 0), (.a 3), (.a 4), (.a 5), (.a 6), (.a 7), (.a 8), (.a 9), (.c 0), (.c 0), (.a 9)] rfl (by kernel_rfl)

theorem argJ77 (val : Nat → Int) (h : Holds val [.ne (.a 7) 0, .is (.a 6) 0, .is (.a 5) 0, .is (.a 4) 0, .is (.a 3) 0, .is (.a 9) 1, .ne (.a 9) 0, .le (.a 8) 2147483647, .ge (.a 8) (-2147483648), .is (.a 0) 2, .ne (.a 0) 1]) : ArgJ val :=
  leaf h [(.c 0), (.c 0), (.c 0), (.c 0), (.c 0), (.c 0), (.c 0), (.c 0), (.c 0), (.c 0), (.c 0), (.c 2), (.c 0)] rfl (by kernel_rfl)

theorem argJ78 (val : Nat → Int) (h : Holds val [.ne (.a 6) 0, .is (.a 5) 0, .is (.a 4) 0, .is (.a 3) 0, .is (.a 9) 1, .ne (.a 9) 0, .le (.a 8) 2147483647, .ge (.a 8) (-2147483648), .is (.a 0) 2, .ne (.a 0) 1]) : ArgJ val :=
  leaf h [(.c 0), (.c 0), (.c 0), (.c 0), (.c 0), (.c 0), (.c 0), (.c 0), (.c 0), (.c 0), (.c 0), (.c 2), (.c 0)] rfl (by kernel_rfl)

theorem argJ79 (val : Nat → Int) (h : Holds val [.is (.a 6) 4, .is (.a 7) 1, .le (.a 6) 15, .ge (.a 6) 0, .is (.a 5) 5, .ne (.a 5) 0, .is (.a 4) 0, .is (.a 3) 0, .is (.a 9) 1, .ne (.a 9) 0, .le (.a 8) 2147483647, .ge (.a 8) (-2147483648), .is (.a 0) 2, .ne (.a 0) 1]) : ArgJ val :=
  leaf h [(.a 0), (.c 0), (.c 0), (.a 5), (.a 6), (.c 0), (.c 0), (.c 0), (.a 8), (.a 9), (.c 0), (.c 0), (.a 9)] rfl (by kernel_rfl)

theorem argJ80 (val : Nat → Int) (h : Holds val [.ne (.a 6) 4, .is (.a 7) 1, .le (.a 6) 15, .ge (.a 6) 0, .is (.a 5) 5, .ne (.a 5) 0, .is (.a 4) 0, .is (.a 3) 0, .is (.a 9) 1, .ne (.a 9) 0, .le (.a 8) 2147483647, .ge (.a 8) (-2147483648), .is (.a 0) 2, .ne (.a 0) 1]) : ArgJ val :=
  leaf h [(.a 0), (.c 0), (.c 0), (.a 5), (.a 6), (.c 0), (.c 0), (.c 0), (.a 8), (.a 9), (.c 0), (.c 0), (.a 9)] rfl (by kernel_rfl)

theorem argJ81 (val : Nat → Int) (h : Holds val [.is (.a 6) 4, .is (.a 7) 2, .ne (.a 7) 1, .le (.a 6) 15, .ge (.a 6) 0, .is (.a 5) 5, .ne (.a 5) 0, .is (.a 4) 0, .is (.a 3) 0, .is (.a 9) 1, .ne (.a 9) 0, .le (.a 8) 2147483647, .ge (.a 8) (-2147483648), .is (.a 0) 2, .ne (.a 0) 1]) : ArgJ val :=
  leaf h [(.c 0), (.c 0), (.c 0), (.c 0), (.c 0), (.c 0), (.c 0), (.c 0), (.c 0), (.c 0), (.c 0), (.c 2), (.c 0)] rfl (by kernel_rfl)

theorem argJ82 (val : Nat → Int) (h : Holds val [.ne (.a 6) 4, .is (.a 7) 2, .ne (.a 7) 1, .le (.a 6) 15, .ge (.a 6) 0, .is (.a 5) 5, .ne (.a 5) 0, .is (.a 4) 0, .is (.a 3) 0, .is (.a 9) 1, .ne (.a 9) 0, .le (.a 8) 2147483647, .ge (.a 8) (-2147483648), .is (.a 0) 2, .ne (.a 0) 1]) : ArgJ val :=
  leaf h [(.a 0), (.c 0), (.c 0), (.a 3), (.a 4), (.a 5), (.a 6), (.a 7), (.a 8), (.a 9), (.c 0), (.c 0), (.a 9)] rfl (by kernel_rfl)

theorem argJ83 (val : Nat → Int) (h : Holds val [.is (.a 6) 4, .is (.a 7) 4, .ne (.a 7) 2, .ne (.a 7) 1, .le (.a 6) 15, .ge (.a 6) 0, .is (.a 5) 5, .ne (.a 5) 0, .is (.a 4) 0, .is (.a 3) 0, .is (.a 9) 1, .ne (.a 9) 0, .le (.a 8) 2147483647, .ge (.a 8) (-2147483648), .is (.a 0) 2, .ne (.a 0) 1]) : ArgJ val :=
  leaf h [(.c 0), (.c 0), (.c 0), (.c 0), (.c 0), (.c 0), (.c 0), (.c 0), (.c 0), (.c 0), (.c 0), (.c 2), (.c 0)] rfl (by kernel_rfl)

theorem argJ84 (val : Nat → Int) (h : Holds val [.ne (.a 6) 4, .is (.a 7) 4, .ne (.a 7) 2, .ne (.a 7) 1, .le (.a 6) 15, .ge (.a 6) 0, .is (.a 5) 5, .ne (.a 5) 0, .is (.a 4) 0, .is (.a 3) 0, .is (.a 9) 1, .ne (.a 9) 0, .le (.a 8) 2147483647, .ge (.a 8) (-2147483648), .is (.a 0) 2, .ne (.a 0) 1]) : ArgJ val :=
  leaf h [(.a 0), (.c 0), (.c 0), (.a 3), (.a 4), (.a 5), (.a 6), (.a 7), (.a 8), (.a 9), (.c 0), (.c 0), (.a 9)] rfl (by kernel_rfl)

theorem argJ85 (val : Nat → Int) (h : Holds val [.is (.a 6) 4, .is (.a 7) 8, .ne (.a 7) 4, .ne (.a 7) 2, .ne (.a 7) 1, .le (.a 6) 15, .ge (.a 6) 0, .is (.a 5) 5, .ne (.a 5) 0, .is (.a 4) 0, .is (.a 3) 0, .is (.a 9) 1, .ne (.a 9) 0, .le (.a 8) 2147483647, .ge (.a 8) (-2147483648), .is (.a 0) 2, .ne (.a 0) 1]) : ArgJ val :=
  leaf h [(.c 0), (.c 0), (.c 0), (.c 0), (.c 0), (.c 0), (.c 0), (.c 0), (.c 0), (.c 0), (.c 0), (.c 2), (.c 0)] rfl (by kernel_rfl)

theorem argJ86 (val : Nat → Int) (h : Holds val [.ne (.a 6) 4, .is (.a 7) 8, .ne (.a 7) 4, .ne (.a 7) 2, .ne (.a 7) 1, .le (.a 6) 15, .ge (.a 6) 0, .is (.a 5) 5, .ne (.a 5) 0, .is (.a 4) 0, .is (.a 3) 0, .is (.a 9) 1, .ne (.a 9) 0, .le (.a 8) 2147483647, .ge (.a 8) (-2147483648), .is (.a 0) 2, .ne (.a 0) 1]) : ArgJ val :=
  leaf h [(.a 0), (.c 0), (.c 0), (.a 3), (.a 4), (.a 5), (.a 6), (.a 7), (.a 8), (.a 9), (.c 0), (.c 0), (.a 9)] rfl (by kernel_rfl)

theorem argJ87 (val : Nat → Int) (h : Holds val [.ne (.a 7) 8, .ne (.a 7) 4, .ne (.a 7) 2, .ne (.a 7) 1, .le (.a 6) 15, .ge (.a 6) 0, .is (.a 5) 5, .ne (.a 5) 0, .is (.a 4) 0, .is (.a 3) 0, .is (.a 9) 1, .ne (.a 9) 0, .le (.a 8) 2147483647, .ge (.a 8) (-2147483648), .is (.a 0) 2, .ne (.a 0) 1]) : ArgJ val :=
  leaf h [(.c 0), (.c 0), (.c 0), (.c 0), (.c 0), (.c 0), (.c 0), (.c 0), (.c 0), (.c 0), (.c 0), (.c 2), (.c 0)] rfl (by kernel_rfl)

theorem argJ88 (val : Nat → Int) (h : Holds val [.ge (.a 6) 16, .ge (.a 6) 0, .is (.a 5) 5, .ne (.a 5) 0, .is (.a 4) 0, .is (.a 3) 0, .is (.a 9) 1, .ne (.a 9) 0, .le (.a 8) 2147483647, .ge (.a 8) (-2147483648), .is (.a 0) 2, .ne (.a 0) 1]) : ArgJ val :=
  leaf h [(.c 0), (.c 0), (.c 0), (.c 0), (.c 0), (.c 0), (.c 0), (.c 0), (.c 0), (.c 0), (.c 0), (.c 2), (.c 0)] rfl (by kernel_rfl)

theorem argJ89 (val : Nat → Int) (h : Holds val [.le (.a 6) (-1), .is (.a 5) 5, .ne (.a 5) 0, .is (.a 4) 0, .is (.a 3) 0, .is (.a 9) 1, .ne (.a 9) 0, .le (.a 8) 2147483647, .ge (.a 8) (-2147483648), .is (.a 0) 2, .ne (.a 0) 1]) : ArgJ val :=
  leaf h [(.c 0), (.c 0), (.c 0), (.c 0), (.c 0), (.c 0), (.c 0), (.c 0), (.c 0), (.c 0), (.c 0), (.c 2), (.c 0)] rfl (by kernel_rfl)

theorem argJ90 (val : Nat → Int) (h : Holds val [.ne (.a 5) 5, .ne (.a 5) 0, .is (.a 4) 0, .is (.a 3) 0, .is (.a 9) 1, .ne (.a 9) 0, .le (.a 8) 2147483647, .ge (.a 8) (-2147483648), .is (.a 0) 2, .ne (.a 0) 1]) : ArgJ val :=
  leaf h [(.c 0), (.c 0), (.c 0), (.c 0), (.c 0), (.c 0), (.c 0), (.c 0), (.c 0), (.c 0), (.c 0), (.c 2), (.c 0)] rfl (by kernel_rfl)

theorem argJ91 (val : Nat → Int) (h : Holds val [.ne (.a 4) 0, .is (.a 3) 0, .is (.a 9) 1, .ne (.a 9) 0, .le (.a 8) 2147483647, .ge (.a 8) (-2147483648), .is (.a 0) 2, .ne (.a 0) 1]) : ArgJ val :=
  leaf h [(.c 0), (.c 0), (.c 0), (.c 0), (.c 0), (.c 0), (.c 0), (.c 0), (.c 0), (.c 0), (.c 0), (.c 2), (.c 0)] rfl (by kernel_rfl)

theorem argJ92 (val : Nat → Int) (h : Holds val [.is (.a 7) 0, .is (.a 6) 0, .is (.a 5) 0, .is (.a 4) 0, .is (.a 3) 8, .ne (.a 3) 0, .is (.a 9) 1, .ne (.a 9) 0, .le (.a 8) 2147483647, .ge (.a 8) (-2147483648), .is (.a 0) 2, .ne (.a 0) 1]) : ArgJ val :=
  leaf h [(.a 0), (.c 0), (.c 0), (.a 3), (.a 4), (.a 5), (.a 6), (.a 7), (.a 8), (.a 9), (.c 0), (.c 0), (.a 9)] rfl (by kernel_rfl)

theorem argJ93 (val : Nat → Int) (h : Holds val [.ne (.a 7) 0, .is (.a 6) 0, .is (.a 5) 0, .is (.a 4) 0, .is (.a 3) 8, .ne (.a 3) 0, .is (.a 9) 1, .ne (.a 9) 0, .le (.a 8) 2147483647, .ge (.a 8) (-2147483648), .is (.a 0) 2, .ne (.a 0) 1]) : ArgJ val :=
  leaf h [(.c 0), (.c 0), (.c 0), (.c 0), (.c 0), (.c 0), (.c 0), (.c 0), (.c 0), (.c 0), (.c 0), (.c 2), (.c 0)] rfl (by kernel_rfl)

theorem argJ94 (val : Nat → Int) (h : Holds val [.ne (.a 6) 0, .is (.a 5) 0, .is (.a 4) 0, .is (.a 3) 8, .ne (.a 3) 0, .is (.a 9) 1, .ne (.a 9) 0, .le (.a 8) 2147483647, .ge (.a 8) (-2147483648), .is (.a 0) 2, .ne (.a 0) 1]) : ArgJ val :=
  leaf h [(.c 0), (.c 0), (.c 0), (.c 0), (.c 0), (.c 0), (.c 0), (.c 0), (.c 0), (.c 0), (.c 0), (.c 2), (.c 0)] rfl (by kernel_rfl)

theorem argJ95 (val : Nat → Int) (h : Holds val [.is (.a 7) 1, .le (.a 6) 15, .ge (.a 6) 0, .is (.a 5) 5, .ne (.a 5) 0, .is (.a 4) 0, .is (.a 3) 8, .ne (.a 3) 0, .is (.a 9) 1, .ne (.a 9) 0, .le (.a 8) 2147483647, .ge (.a 8) (-2147483648), .is (.a 0) 2, .ne (.a 0) 1]) : ArgJ val :=
  leaf h [(.c 0), (.c 0), (.c 0), (.c 0), (.c 0), (.c 0), (.c 0), (.c 0), (.c 0), (.c 0), (.c 0), (.c 2), (.c 0)] rfl (by kernel_rfl)

theorem argJ96 (val : Nat → Int) (h : Holds val [.is (.a 7) 2, .ne (.a 7) 1, .le (.a 6) 15, .ge (.a 6) 0, .is (.a 5) 5, .ne (.a 5) 0, .is (.a 4) 0, .is (.a 3) 8, .ne (.a 3) 0, .is (.a 9) 1, .ne (.a 9) 0, .le (.a 8) 2147483647, .ge (.a 8) (-2147483648), .is (.a 0) 2, .ne (.a 0) 1]) : ArgJ val :=
  leaf h [(.c 0), (.c 0), (.c 0), (.c 0), (.c 0), (.c 0), (.c 0), (.c 0), (.c 0), (.c 0), (.c 0), (.c 2), (.c 0)] rfl (by kernel_rfl)

theorem argJ97 (val : Nat → Int) (h : Holds val [.is (.a 7) 4, .ne (.a 7) 2, .ne (.a 7) 1, .le (.a 6) 15, .ge (.a 6) 0, .is (.a 5) 5, .ne (.a 5) 0, .is (.a 4) 0, .is (.a 3) 8, .ne (.a 3) 0, .is (.a 9) 1, .ne (.a 9) 0, .le (.a 8) 2147483647, .ge (.a 8) (-2147483648), .is (.a 0) 2, .ne (.a 0) 1]) : ArgJ val :=
  leaf h [(.c 0), (.c 0), (.c 0), (.c 0), (.c 0), (.c 0), (.c 0), (.c 0), (.c 0), (.c 0), (.c 0), (.c 2), (.c 0)] rfl (by kernel_rfl)

theorem argJ98 (val : Nat → Int) (h : Holds val [.is (.a 7) 8, .ne (.a 7) 4, .ne (.a 7) 2, .ne (.a 7) 1, .le (.a 6) 15, .ge (.a 6) 0, .is (.a 5) 5, .ne (.a 5) 0, .is (.a 4) 0, .is (.a 3) 8, .ne (.a 3) 0, .is (.a 9) 1, .ne (.a 9) 0, .le (.a 8) 2147483647, .ge (.a 8) (-2147483648), .is (.a 0) 2, .ne (.a 0) 1]) : ArgJ val :=
  leaf h [(.c 0), (.c 0), (.c 0), (.c 0), (.c 0), (.c 0), (.c 0), (.c 0), (.c 0), (.c 0), (.c 0), (.c 2), (.c 0)] rfl (by kernel_rfl)

theorem argJ99 (val : Nat → Int) (h : Holds val [.ne (.a 7) 8, .ne (.a 7) 4, .ne (.a 7) 2, .ne (.a 7) 1, .le (.a 6) 15, .ge (.a 6) 0, .is (.a 5) 5, .ne (.a 5) 0, .is (.a 4) 0, .is (.a 3) 8, .ne (.a 3) 0, .is (.a 9) 1, .ne (.a 9) 0, .le (.a 8) 2147483647, .ge (.a 8) (-2147483648), .is (.a 0) 2, .ne (.a 0) 1]) : ArgJ val :=
  leaf h [(.c 0), (.c 0), (.c 0), (.c 0), (.c 0), (.c 0), (.c 0), (.c 0), (.c 0), (.c 0), (.c 0), (.c 2), (.c 0)] rfl (by kernel_rfl)

theorem argJ100 (val : Nat → Int) (h : Holds val [.ge (.a 6) 16, .ge (.a 6) 0, .is (.a 5) 5, .ne (.a 5) 0, .is (.a 4) 0, .is (.a 3) 8, .ne (.a 3) 0, .is (.a 9) 1, .ne (.a 9) 0, .le (.a 8) 2147483647, .ge (.a 8) (-2147483648), .is (.a 0) 2, .ne (.a 0) 1]) : ArgJ val :=
  leaf h [(.c 0), (.c 0), (.c 0), (.c 0), (.c 0), (.c 0), (.c 0), (.c 0), (.c 0), (.c 0), (.c 0), (.c 2), (.c 0)] rfl (by kernel_rfl)

theorem argJ101 (val : Nat → Int) (h : Holds val [.le (.a 6) (-1), .is (.a 5) 5, .ne (.a 5) 0, .is (.a 4) 0, .is (.a 3) 8, .ne (.a 3) 0, .is (.a 9) 1, .ne (.a 9) 0, .le (.a 8) 2147483647, .ge (.a 8) (-2147483648), .is (.a 0) 2, .ne (.a 0) 1]) : ArgJ val :=
  leaf h [(.c 0), (.c 0), (.c 0), (.c 0), (.c 0), (.c 0), (.c 0), (.c 0), (.c 0), (.c 0), (.c 0), (.c 2), (.c 0)] rfl (by kernel_rfl)

theorem argJ102 (val : Nat → Int) (h : Holds val [.ne (.a 5) 5, .ne (.a 5) 0, .is (.a 4) 0, .is (.a 3) 8, .ne (.a 3) 0, .is (.a 9) 1, .ne (.a 9) 0, .le (.a 8) 2147483647, .ge (.a 8) (-2147483648), .is (.a 0) 2, .ne (.a 0) 1]) : ArgJ val :=
  leaf h [(.c 0), (.c 0), (.c 0), (.c 0), (.c 0), (.c 0), (.c 0), (.c 0), (.c 0), (.c 0), (.c 0), (.c 2), (.c 0)] rfl (by kernel_rfl)

theorem argJ103 (val : Nat → Int) (h : Holds val [.ne (.a 4) 0, .is (.a 3) 8, .ne (.a 3) 0, .is (.a 9) 1, .ne (.a 9) 0, .le (.a 8) 2147483647, .ge (.a 8) (-2147483648), .is (.a 0) 2, .ne (.a 0) 1]) : ArgJ val :=
  leaf h [(.c 0), (.c 0), (.c 0), (.c 0), (.c 0), (.c 0), (.c 0), (.c 0), (.c 0), (.c 0), (.c 0), (.c 2), (.c 0)] rfl (by kernel_rfl)

theorem argJ104 (val : Nat → Int) (h : Holds val [.is (.a 7) 0, .is (.a 6) 0, .is (.a 5) 0, .le (.a 4) 15, .ge (.a 4) 0, .is (.a 3) 5, .ne (.a 3) 8, .ne (.a 3) 0, .is (.a 9) 1, .ne (.a 9) 0, .le (.a 8) 2147483647, .ge (.a 8) (-2147483648), .is (.a 0) 2, .ne (.a 0) 1]) : ArgJ val :=
  leaf h [(.a 0), (.c 0), (.c 0), (.a 3), (.a 4), (.a 5), (.a 6), (.a 7), (.a 8), (.a 9), (.c 0), (.c 0), (.a 9)] rfl (by kernel_rfl)

theorem argJ105 (val : Nat → Int) (h : Holds val [.ne (.a 7) 0, .is (.a 6) 0, .is (.a 5) 0, .le (.a 4) 15, .ge (.a 4) 0, .is (.a 3) 5, .ne (.a 3) 8, .ne (.a 3) 0, .is (.a 9) 1, .ne (.a 9) 0, .le (.a 8) 2147483647, .ge (.a 8) (-2147483648), .is (.a 0) 2, .ne (.a 0) 1]) : ArgJ val :=
  leaf h [(.c 0), (.c 0), (.c 0), (.c 0), (.c 0), (.c 0), (.c 0), (.c 0), (.c 0), (.c 0), (.c 0), (.c 2), (.c 0)] rfl (by kernel_rfl)

theorem argJ106 (val : Nat → Int) (h : Holds val [.ne (.a 6) 0, .is (.a 5) 0, .le (.a 4) 15, .ge (.a 4) 0, .is (.a 3) 5, .ne (.a 3) 8, .ne (.a 3) 0, .is (.a 9) 1, .ne (.a 9) 0, .le (.a 8) 2147483647, .ge (.a 8) (-2147483648), .is (.a 0) 2, .ne (.a 0) 1]) : ArgJ val :=
  leaf h [(.c 0), (.c 0), (.c 0), (.c 0), (.c 0), (.c 0), (.c 0), (.c 0), (.c 0), (.c 0), (.c 0), (.c 2), (.c 0)] rfl (by kernel_rfl)

theorem argJ107 (val : Nat → Int) (h : Holds val [.is (.a 4) 4, .is (.a 6) 4, .is (.a 7) 1, .le (.a 6) 15, .ge (.a 6) 0, .is (.a 5) 5, .ne (.a 5) 0, .le (.a 4) 15, .ge (.a 4) 0, .is (.a 3) 5, .ne (.a 3) 8, .ne (.a 3) 0, .is (.a 9) 1, .ne (.a 9) 0, .le (.a 8) 2147483647, .ge (.a 8) (-2147483648), .is (.a 0) 2, .ne (.a 0) 1]) : ArgJ val :=
  leaf h [(.c 0), (.c 0), (.c 0), (.c 0), (.c 0), (.c 0), (.c 0), (.c 0), (.c 0), (.c 0), (.c 0), (.c 2), (.c 0)] rfl (by kernel_rfl)

theorem argJ108 (val : Nat → Int) (h : Holds val [.ne (.a 4) 4, .is (.a 6) 4, .is (.a 7) 1, .le (.a 6) 15, .ge (.a 6) 0, .is (.a 5) 5, .ne (.a 5) 0, .le (.a 4) 15, .ge (.a 4) 0, .is (.a 3) 5, .ne (.a 3) 8, .ne (.a 3) 0, .is (.a 9) 1, .ne (.a 9) 0, .le (.a 8) 2147483647, .ge (.a 8) (-2147483648), .is (.a 0) 2, .ne (.a 0) 1]) : ArgJ val :=
  leaf h [(.a 0), (.c 0), (.c 0), (.a 5), (.a 6), (.a 3), (.a 4), (.a 7), (.a 8), (.a 9), (.c 0), (.c 0), (.a 9)] rfl (by kernel_rfl)

theorem argJ109 (val : Nat → Int) (h : Holds val [.ne (.a 6) 4, .is (.a 7) 1, .le (.a 6) 15, .ge (.a 6) 0, .is (.a 5) 5, .ne (.a 5) 0, .le (.a 4) 15, .ge (.a 4) 0, .is (.a 3) 5, .ne (.a 3) 8, .ne (.a 3) 0, .is (.a 9) 1, .ne (.a 9) 0, .le (.a 8) 2147483647, .ge (.a 8) (-2147483648), .is (.a 0) 2, .ne (.a 0) 1]) : ArgJ val :=
  leaf h [(.a 0), (.c 0), (.c 0), (.a 3), (.a 4), (.a 5), (.a 6), (.a 7), (.a 8), (.a 9), (.c 0), (.c 0), (.a 9)] rfl (by kernel_rfl)

theorem argJ110 (val : Nat → Int) (h : Holds val [.is (.a 6) 4, .is (.a 7) 2, .ne (.a 7) 1, .le (.a 6) 15, .ge (.a 6) 0, .is (.a 5) 5, .ne (.a 5) 0, .le (.a 4) 15, .ge (.a 4) 0, .is (.a 3) 5, .ne (.a 3) 8, .ne (.a 3) 0, .is (.a 9) 1, .ne (.a 9) 0, .le (.a 8) 2147483647, .ge (.a 8) (-2147483648), .is (.a 0) 2, .ne (.a 0) 1]) : ArgJ val :=
  leaf h [(.c 0), (.c 0), (.c 0), (.c 0), (.c 0), (.c 0), (.c 0), (.c 0), (.c 0), (.c 0), (.c 0), (.c 2), (.c 0)] rfl (by kernel_rfl)

theorem argJ111 (val : Nat → Int) (h : Holds val [.ne (.a 6) 4, .is (.a 7) 2, .ne (.a 7) 1, .le (.a 6) 15, .ge (.a 6) 0, .is (.a 5) 5, .ne (.a 5) 0, .le (.a 4) 15, .ge (.a 4) 0, .is (.a 3) 5, .ne (.a 3) 8, .ne (.a 3) 0, .is (.a 9) 1, .ne (.a 9) 0, .le (.a 8) 2147483647, .ge (.a 8) (-2147483648), .is (.a 0) 2, .ne (.a 0) 1]) : ArgJ val :=
  leaf h [(.a 0), (.c 0), (.c 0), (.a 3), (.a 4), (.a 5), (.a 6), (.a 7), (.a 8), (.a 9), (.c 0), (.c 0), (.a 9)] rfl (by kernel_rfl)

theorem argJ112 (val : Nat → Int) (h : Holds val [.is (.a 6) 4, .is (.a 7) 4, .ne (.a 7) 2, .ne (.a 7) 1, .le (.a 6) 15, .ge (.a 6) 0, .is (.a 5) 5, .ne (.a 5) 0, .le (.a 4) 15, .ge (.a 4) 0, .is (.a 3) 5, .ne (.a 3) 8, .ne (.a 3) 0, .is (.a 9) 1, .ne (.a 9) 0, .le (.a 8) 2147483647, .ge (.a 8) (-2147483648), .is (.a 0) 2, .ne (.a 0) 1]) : ArgJ val :=
  leaf h [(.c 0), (.c 0), (.c 0), (.c 0), (.c 0), (.c 0), (.c 0), (.c 0), (.c 0), (.c 0), (.c 0), (.c 2), (.c 0)] rfl (by kernel_rfl)

theorem argJ113 (val : Nat → Int) (h : Holds val [.ne (.a 6) 4, .is (.a 7) 4, .ne (.a 7) 2, .ne (.a 7) 1, .le (.a 6) 15, .ge (.a 6) 0, .is (.a 5) 5, .ne (.a 5) 0, .le (.a 4) 15, .ge (.a 4) 0, .is (.a 3) 5, .ne (.a 3) 8, .ne (.a 3) 0, .is (.a 9) 1, .ne (.a 9) 0, .le (.a 8) 2147483647, .ge (.a 8) (-2147483648), .is (.a 0) 2, .ne (.a 0) 1]) : ArgJ val :=
  leaf h [(.a 0), (.c 0), (.c 0), (.a 3), (.a 4), (.a 5), (.a 6), (.a 7), (.a 8), (.a 9), (.c 0), (.c 0), (.a 9)] rfl (by kernel_rfl)

theorem argJ114 (val : Nat → Int) (h : Holds val [.is (.a 6) 4, .is (.a 7) 8, .ne (.a 7) 4, .ne (.a 7) 2, .ne (.a 7) 1, .le (.a 6) 15, .ge (.a 6) 0, .is (.a 5) 5, .ne (.a 5) 0, .le (.a 4) 15, .ge (.a 4) 0, .is (.a 3) 5, .ne (.a 3) 8, .ne (.a 3) 0, .is (.a 9) 1, .ne (.a 9) 0, .le (.a 8) 2147483647, .ge (.a 8) (-2147483648), .is (.a 0) 2, .ne (.a 0) 1]) : ArgJ val :=
  leaf h [(.c 0), (.c 0), (.c 0), (.c 0), (.c 0), (.c 0), (.c 0), (.c 0), (.c 0), (.c 0), (.c 0), (.c 2), (.c 0)] rfl (by kernel_rfl)

theorem argJ115 (val : Nat → Int) (h : Holds val [.ne (.a 6) 4, .is (.a 7) 8, .ne (.a 7) 4, .ne (.a 7) 2, .ne (.a 7) 1, .le (.a 6) 15, .ge (.a 6) 0, .is (.a 5) 5, .ne (.a 5) 0, .le (.a 4) 15, .ge (.a 4) 0, .is (.a 3) 5, .ne (.a 3) 8, .ne (.a 3) 0, .is (.a 9) 1, .ne (.a 9) 0, .le (.a 8) 2147483647, .ge (.a 8) (-2147483648), .is (.a 0) 2, .ne (.a 0) 1]) : ArgJ val :=
  leaf h [(.a 0), (.c 0), (.c 0), (.a 3), (.a 4), (.a 5), (.a 6), (.a 7), (.a 8), (.a 9), (.c 0), (.c 0), (.a 9)] rfl (by kernel_rfl)

theorem argJ116 (val : Nat → Int) (h : Holds val [.ne (.a 7) 8, .ne (.a 7) 4, .ne (.a 7) 2, .ne (.a 7) 1, .le (.a 6) 15, .ge (.a 6) 0, .is (.a 5) 5, .ne (.a 5) 0, .le (.a 4) 15, .ge (.a 4) 0, .is (.a 3) 5, .ne (.a 3) 8, .ne (.a 3) 0, .is (.a 9) 1, .ne (.a 9) 0, .le (.a 8) 2147483647, .ge (.a 8) (-2147483648), .is (.a 0) 2, .ne (.a 0) 1]) : ArgJ val :=
  leaf h [(.c 0), (.c 0), (.c 0), (.c 0), (.c 0), (.c 0), (.c 0), (.c 0), (.c 0), (.c 0), (.c 0), (.c 2), (.c 0)] rfl (by kernel_rfl)

theorem argJ117 (val : Nat → Int) (h : Holds val [.ge (.a 6) 16, .ge (.a 6) 0, .is (.a 5) 5, .ne (.a 5) 0, .le (.a 4) 15, .ge (.a 4) 0, .is (.a 3) 5, .ne (.a 3) 8, .ne (.a 3) 0, .is (.a 9) 1, .ne (.a 9) 0, .le (.a 8) 2147483647, .ge (.a 8) (-2147483648), .is (.a 0) 2, .ne (.a 0) 1]) : ArgJ val :=
  leaf h [(.c 0), (.c 0), (.c 0), (.c 0), (.c 0), (.c 0), (.c 0), (.c 0), (.c 0), (.c 0), (.c 0), (.c 2), (.c 0)] rfl (by kernel_rfl)

theorem argJ118 (val : Nat → Int) (h : Holds val [.le (.a 6) (-1), .is (.a 5) 5, .ne (.a 5) 0, .le (.a 4) 15, .ge (.a 4) 0, .is (.a 3) 5, .ne (.a 3) 8, .ne (.a 3) 0, .is (.a 9) 1, .ne (.a 9) 0, .le (.a 8) 2147483647, .ge (.a 8) (-2147483648), .is (.a 0) 2, .ne (.a 0) 1]) : ArgJ val :=
  leaf h [(.c 0), (.c 0), (.c 0), (.c 0), (.c 0), (.c 0), (.c 0), (.c 0), (.c 0), (.c 0), (.c 0), (.c 2), (.c 0)] rfl (by kernel_rfl)

theorem argJ119 (val : Nat → Int) (h : Holds val [.ne (.a 5) 5, .ne (.a 5) 0, .le (.a 4) 15, .ge (.a 4) 0, .is (.a 3) 5, .ne (.a 3) 8, .ne (.a 3) 0, .is (.a 9) 1, .ne (.a 9) 0, .le (.a 8) 2147483647, .ge (.a 8) (-2147483648), .is (.a 0) 2, .ne (.a 0) 1]) : ArgJ val :=
  leaf h [(.c 0), (.c 0), (.c 0), (.c 0), (.c 0), (.c 0), (.c 0), (.c 0), (.c 0), (.c 0), (.c 0), (.c 2), (.c 0)] rfl (by kernel_rfl)

theorem argJ120 (val : Nat → Int) (h : Holds val [.ge (.a 4) 16, .ge (.a 4) 0, .is (.a 3) 5, .ne (.a 3) 8, .ne (.a 3) 0, .is (.a 9) 1, .ne (.a 9) 0, .le (.a 8) 2147483647, .ge (.a 8) (-2147483648), .is (.a 0) 2, .ne (.a 0) 1]) : ArgJ val :=
  leaf h [(.c 0), (.c 0), (.c 0), (.c 0), (.c 0), (.c 0), (.c 0), (.c 0), (.c 0), (.c 0), (.c 0), (.c 2), (.c 0)] rfl (by kernel_rfl)

theorem argJ121 (val : Nat → Int) (h : Holds val [.le (.a 4) (-1), .is (.a 3) 5, .ne (.a 3) 8, .ne (.a 3) 0, .is (.a 9) 1, .ne (.a 9) 0, .le (.a 8) 2147483647, .ge (.a 8) (-2147483648), .is (.a 0) 2, .ne (.a 0) 1]) : ArgJ val :=
  leaf h [(.c 0), (.c 0), (.c 0), (.c 0), (.c 0), (.c 0), (.c 0), (.c 0), (.c 0), (.c 0), (.c 0), (.c 2), (.c 0)] rfl (by kernel_rfl)

end Go.Proofs.Ytclhjdddakmafaa.Tab
