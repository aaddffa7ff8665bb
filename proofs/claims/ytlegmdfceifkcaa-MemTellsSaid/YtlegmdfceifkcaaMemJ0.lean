/-
  Ways through the code, part 0.
-/
import Derived.Test.YtlegmdfceifkcaaMemJH
namespace Go.Proofs.Ytlegmdfceifkcaa.Tab
open Go.Sim
set_option maxRecDepth 100000

theorem memJ0 (val : Nat → Int) (h : Holds val [.le (.a 5) (-2147483649)]) : MemJ val :=
  leaf h [(.c 0), (.c 0), (.c 0), (.c 0), (.c 0), (.c 0), (.c 0), (.c 5)] rfl (by kernel_rfl)

theorem memJ1 (val : Nat → Int) (h : Holds val [.ge (.a 5) 2147483648, .ge (.a 5) (-2147483648)]) : MemJ val :=
  leaf h [(.c 0), (.c 0), (.c 0), (.c 0), (.c 0), (.c 0), (.c 0), (.c 5)] rfl (by kernel_rfl)

theorem memJ2 (val : Nat → Int) (h : Holds val [.is (.a 4) 0, .is (.a 3) 0, .is (.a 2) 0, .is (.a 1) 0, .is (.a 0) 0, .is (.a 6) 0, .le (.a 5) 2147483647, .ge (.a 5) (-2147483648)]) : MemJ val :=
  leaf h [(.a 0), (.a 1), (.a 2), (.a 3), (.a 4), (.a 5), (.a 6), (.c 0)] rfl (by kernel_rfl)

theorem memJ3 (val : Nat → Int) (h : Holds val [.ne (.a 4) 0, .is (.a 3) 0, .is (.a 2) 0, .is (.a 1) 0, .is (.a 0) 0, .is (.a 6) 0, .le (.a 5) 2147483647, .ge (.a 5) (-2147483648)]) : MemJ val :=
  leaf h [(.c 0), (.c 0), (.c 0), (.c 0), (.c 0), (.c 0), (.c 0), (.c 2)] rfl (by kernel_rfl)

theorem memJ4 (val : Nat → Int) (h : Holds val [.ne (.a 3) 0, .is (.a 2) 0, .is (.a 1) 0, .is (.a 0) 0, .is (.a 6) 0, .le (.a 5) 2147483647, .ge (.a 5) (-2147483648)]) : MemJ val :=
  leaf h [(.c 0), (.c 0), (.c 0), (.c 0), (.c 0), (.c 0), (.c 0), (.c 2)] rfl (by kernel_rfl)

theorem memJ5 (val : Nat → Int) (h : Holds val [.is (.a 3) 4, .is (.a 4) 1, .le (.a 3) 15, .ge (.a 3) 0, .is (.a 2) 5, .ne (.a 2) 0, .is (.a 1) 0, .is (.a 0) 0, .is (.a 6) 0, .le (.a 5) 2147483647, .ge (.a 5) (-2147483648)]) : MemJ val :=
  leaf h [(.a 2), (.a 3), (.c 0), (.c 0), (.c 0), (.a 5), (.a 6), (.c 0)] rfl (by kernel_rfl)

theorem memJ6 (val : Nat → Int) (h : Holds val [.ne (.a 3) 4, .is (.a 4) 1, .le (.a 3) 15, .ge (.a 3) 0, .is (.a 2) 5, .ne (.a 2) 0, .is (.a 1) 0, .is (.a 0) 0, .is (.a 6) 0, .le (.a 5) 2147483647, .ge (.a 5) (-2147483648)]) : MemJ val :=
  leaf h [(.a 2), (.a 3), (.c 0), (.c 0), (.c 0), (.a 5), (.a 6), (.c 0)] rfl (by kernel_rfl)

theorem memJ7 (val : Nat → Int) (h : Holds val [.is (.a 3) 4, .is (.a 4) 2, .ne (.a 4) 1, .le (.a 3) 15, .ge (.a 3) 0, .is (.a 2) 5, .ne (.a 2) 0, .is (.a 1) 0, .is (.a 0) 0, .is (.a 6) 0, .le (.a 5) 2147483647, .ge (.a 5) (-2147483648)]) : MemJ val :=
  leaf h [(.c 0), (.c 0), (.c 0), (.c 0), (.c 0), (.c 0), (.c 0), (.c 2)] rfl (by kernel_rfl)

theorem memJ8 (val : Nat → Int) (h : Holds val [.ne (.a 3) 4, .is (.a 4) 2, .ne (.a 4) 1, .le (.a 3) 15, .ge (.a 3) 0, .is (.a 2) 5, .ne (.a 2) 0, .is (.a 1) 0, .is (.a 0) 0, .is (.a 6) 0, .le (.a 5) 2147483647, .ge (.a 5) (-2147483648)]) : MemJ val :=
  leaf h [(.a 0), (.a 1), (.a 2), (.a 3), (.a 4), (.a 5), (.a 6), (.c 0)] rfl (by kernel_rfl)

theorem memJ9 (val : Nat → Int) (h : Holds val [.is (.a 3) 4, .is (.a 4) 4, .ne (.a 4) 2, .ne (.a 4) 1, .le (.a 3) 15, .ge (.a 3) 0, .is (.a 2) 5, .ne (.a 2) 0, .is (.a 1) 0, .is (.a 0) 0, .is (.a 6) 0, .le (.a 5) 2147483647, .ge (.a 5) (-2147483648)]) : MemJ val :=
  leaf h [(.c 0), (.c 0), (.c 0), (.c 0), (.c 0), (.c 0), (.c 0), (.c 2)] rfl (by kernel_rfl)

theorem memJ10 (val : Nat → Int) (h : Holds val [.ne (.a 3) 4, .is (.a 4) 4, .ne (.a 4) 2, .ne (.a 4) 1, .le (.a 3) 15, .ge (.a 3) 0, .is (.a 2) 5, .ne (.a 2) 0, .is (.a 1) 0, .is (.a 0) 0, .is (.a 6) 0, .le (.a 5) 2147483647, .ge (.a 5) (-2147483648)]) : MemJ val :=
  leaf h [(.a 0), (.a 1), (.a 2), (.a 3), (.a 4), (.a 5), (.a 6), (.c 0)] rfl (by kernel_rfl)

theorem memJ11 (val : Nat → Int) (h : Holds val [.is (.a 3) 4, .is (.a 4) 8, .ne (.a 4) 4, .ne (.a 4) 2, .ne (.a 4) 1, .le (.a 3) 15, .ge (.a 3) 0, .is (.a 2) 5, .ne (.a 2) 0, .is (.a 1) 0, .is (.a 0) 0, .is (.a 6) 0, .le (.a 5) 2147483647, .ge (.a 5) (-2147483648)]) : MemJ val :=
  leaf h [(.c 0), (.c 0), (.c 0), (.c 0), (.c 0), (.c 0), (.c 0), (.c 2)] rfl (by kernel_rfl)

theorem memJ12 (val : Nat → Int) (h : Holds val [.ne (.a 3) 4, .is (.a 4) 8, .ne (.a 4) 4, .ne (.a 4) 2, .ne (.a 4) 1, .le (.a 3) 15, .ge (.a 3) 0, .is (.a 2) 5, .ne (.a 2) 0, .is (.a 1) 0, .is (.a 0) 0, .is (.a 6) 0, .le (.a 5) 2147483647, .ge (.a 5) (-2147483648)]) : MemJ val :=
  leaf h [(.a 0), (.a 1), (.a 2), (.a 3), (.a 4), (.a 5), (.a 6), (.c 0)] rfl (by kernel_rfl)

theorem memJ13 (val : Nat → Int) (h : Holds val [.ne (.a 4) 8, .ne (.a 4) 4, .ne (.a 4) 2, .ne (.a 4) 1, .le (.a 3) 15, .ge (.a 3) 0, .is (.a 2) 5, .ne (.a 2) 0, .is (.a 1) 0, .is (.a 0) 0, .is (.a 6) 0, .le (.a 5) 2147483647, .ge (.a 5) (-2147483648)]) : MemJ val :=
  leaf h [(.c 0), (.c 0), (.c 0), (.c 0), (.c 0), (.c 0), (.c 0), (.c 2)] rfl (by kernel_rfl)

theorem memJ14 (val : Nat → Int) (h : Holds val [.ge (.a 3) 16, .ge (.a 3) 0, .is (.a 2) 5, .ne (.a 2) 0, .is (.a 1) 0, .is (.a 0) 0, .is (.a 6) 0, .le (.a 5) 2147483647, .ge (.a 5) (-2147483648)]) : MemJ val :=
  leaf h [(.c 0), (.c 0), (.c 0), (.c 0), (.c 0), (.c 0), (.c 0), (.c 2)] rfl (by kernel_rfl)

theorem memJ15 (val : Nat → Int) (h : Holds val [.le (.a 3) (-1), .is (.a 2) 5, .ne (.a 2) 0, .is (.a 1) 0, .is (.a 0) 0, .is (.a 6) 0, .le (.a 5) 2147483647, .ge (.a 5) (-2147483648)]) : MemJ val :=
  leaf h [(.c 0), (.c 0), (.c 0), (.c 0), (.c 0), (.c 0), (.c 0), (.c 2)] rfl (by kernel_rfl)

theorem memJ16 (val : Nat → Int) (h : Holds val [.ne (.a 2) 5, .ne (.a 2) 0, .is (.a 1) 0, .is (.a 0) 0, .is (.a 6) 0, .le (.a 5) 2147483647, .ge (.a 5) (-2147483648)]) : MemJ val :=
  leaf h [(.c 0), (.c 0), (.c 0), (.c 0), (.c 0), (.c 0), (.c 0), (.c 2)] rfl (by kernel_rfl)

theorem memJ17 (val : Nat → Int) (h : Holds val [.ne (.a 1) 0, .is (.a 0) 0, .is (.a 6) 0, .le (.a 5) 2147483647, .ge (.a 5) (-2147483648)]) : MemJ val :=
  leaf h [(.c 0), (.c 0), (.c 0), (.c 0), (.c 0), (.c 0), (.c 0), (.c 2)] rfl (by kernel_rfl)

theorem memJ18 (val : Nat → Int) (h : Holds val [.is (.a 4) 0, .is (.a 3) 0, .is (.a 2) 0, .is (.a 1) 0, .is (.a 0) 8, .ne (.a 0) 0, .is (.a 6) 0, .le (.a 5) 2147483647, .ge (.a 5) (-2147483648)]) : MemJ val :=
  leaf h [(.a 0), (.a 1), (.a 2), (.a 3), (.a 4), (.a 5), (.a 6), (.c 0)] rfl (by kernel_rfl)

theorem memJ19 (val : Nat → Int) (h : Holds val [.ne (.a 4) 0, .is (.a 3) 0, .is (.a 2) 0, .is (.a 1) 0, .is (.a 0) 8, .ne (.a 0) 0, .is (.a 6) 0, .le (.a 5) 2147483647, .ge (.a 5) (-2147483648)]) : MemJ val :=
  leaf h [(.c 0), (.c 0), (.c 0), (.c 0), (.c 0), (.c 0), (.c 0), (.c 2)] rfl (by kernel_rfl)

theorem memJ20 (val : Nat → Int) (h : Holds val [.ne (.a 3) 0, .is (.a 2) 0, .is (.a 1) 0, .is (.a 0) 8, .ne (.a 0) 0, .is (.a 6) 0, .le (.a 5) 2147483647, .ge (.a 5) (-2147483648)]) : MemJ val :=
  leaf h [(.c 0), (.c 0), (.c 0), (.c 0), (.c 0), (.c 0), (.c 0), (.c 2)] rfl (by kernel_rfl)

theorem memJ21 (val : Nat → Int) (h : Holds val [.is (.a 4) 1, .le (.a 3) 15, .ge (.a 3) 0, .is (.a 2) 5, .ne (.a 2) 0, .is (.a 1) 0, .is (.a 0) 8, .ne (.a 0) 0, .is (.a 6) 0, .le (.a 5) 2147483647, .ge (.a 5) (-2147483648)]) : MemJ val :=
  leaf h [(.c 0), (.c 0), (.c 0), (.c 0), (.c 0), (.c 0), (.c 0), (.c 2)] rfl (by kernel_rfl)

theorem memJ22 (val : Nat → Int) (h : Holds val [.is (.a 4) 2, .ne (.a 4) 1, .le (.a 3) 15, .ge (.a 3) 0, .is (.a 2) 5, .ne (.a 2) 0, .is (.a 1) 0, .is (.a 0) 8, .ne (.a 0) 0, .is (.a 6) 0, .le (.a 5) 2147483647, .ge (.a 5) (-2147483648)]) : MemJ val :=
  leaf h [(.c 0), (.c 0), (.c 0), (.c 0), (.c 0), (.c 0), (.c 0), (.c 2)] rfl (by kernel_rfl)

theorem memJ23 (val : Nat → Int) (h : Holds val [.is (.a 4) 4, .ne (.a 4) 2, .ne (.a 4) 1, .le (.a 3) 15, .ge (.a 3) 0, .is (.a 2) 5, .ne (.a 2) 0, .is (.a 1) 0, .is (.a 0) 8, .ne (.a 0) 0, .is (.a 6) 0, .le (.a 5) 2147483647, .ge (.a 5) (-2147483648)]) : MemJ val :=
  leaf h [(.c 0), (.c 0), (.c 0), (.c 0), (.c 0), (.c 0), (.c 0), (.c 2)] rfl (by kernel_rfl)

theorem memJ24 (val : Nat → Int) (h : Holds val [.is (.a 4) 8, .ne (.a 4) 4, .ne (.a 4) 2, .ne (.a 4) 1, .le (.a 3) 15, .ge (.a 3) 0, .is (.a 2) 5, .ne (.a 2) 0, .is (.a 1) 0, .is (.a 0) 8, .ne (.a 0) 0, .is (.a 6) 0, .le (.a 5) 2147483647, .ge (.a 5) (-2147483648)]) : MemJ val :=
  leaf h [(.c 0), (.c 0), (.c 0), (.c 0), (.c 0), (.c 0), (.c 0), (.c 2)] rfl (by kernel_rfl)

theorem memJ25 (val : Nat → Int) (h : Holds val [.ne (.a 4) 8, .ne (.a 4) 4, .ne (.a 4) 2, .ne (.a 4) 1, .le (.a 3) 15, .ge (.a 3) 0, .is (.a 2) 5, .ne (.a 2) 0, .is (.a 1) 0, .is (.a 0) 8, .ne (.a 0) 0, .is (.a 6) 0, .le (.a 5) 2147483647, .ge (.a 5) (-2147483648)]) : MemJ val :=
  leaf h [(.c 0), (.c 0), (.c 0), (.c 0), (.c 0), (.c 0), (.c 0), (.c 2)] rfl (by kernel_rfl)

theorem memJ26 (val : Nat → Int) (h : Holds val [.ge (.a 3) 16, .ge (.a 3) 0, .is (.a 2) 5, .ne (.a 2) 0, .is (.a 1) 0, .is (.a 0) 8, .ne (.a 0) 0, .is (.a 6) 0, .le (.a 5) 2147483647, .ge (.a 5) (-2147483648)]) : MemJ val :=
  leaf h [(.c 0), (.c 0), (.c 0), (.c 0), (.c 0), (.c 0), (.c 0), (.c 2)] rfl (by kernel_rfl)

theorem memJ27 (val : Nat → Int) (h : Holds val [.le (.a 3) (-1), .is (.a 2) 5, .ne (.a 2) 0, .is (.a 1) 0, .is (.a 0) 8, .ne (.a 0) 0, .is (.a 6) 0, .le (.a 5) 2147483647, .ge (.a 5) (-2147483648)]) : MemJ val :=
  leaf h [(.c 0), (.c 0), (.c 0), (.c 0), (.c 0), (.c 0), (.c 0), (.c 2)] rfl (by kernel_rfl)

theorem memJ28 (val : Nat → Int) (h : Holds val [.ne (.a 2) 5, .ne (.a 2) 0, .is (.a 1) 0, .is (.a 0) 8, .ne (.a 0) 0, .is (.a 6) 0, .le (.a 5) 2147483647, .ge (.a 5) (-2147483648)]) : MemJ val :=
  leaf h [(.c 0), (.c 0), (.c 0), (.c 0), (.c 0), (.c 0), (.c 0), (.c 2)] rfl (by kernel_rfl)

theorem memJ29 (val : Nat → Int) (h : Holds val [.ne (.a 1) 0, .is (.a 0) 8, .ne (.a 0) 0, .is (.a 6) 0, .le (.a 5) 2147483647, .ge (.a 5) (-2147483648)]) : MemJ val :=
  leaf h [(.c 0), (.c 0), (.c 0), (.c 0), (.c 0), (.c 0), (.c 0), (.c 2)] rfl (by kernel_rfl)

theorem memJ30 (val : Nat → Int) (h : Holds val [.is (.a 4) 0, .is (.a 3) 0, .is (.a 2) 0, .le (.a 1) 15, .ge (.a 1) 0, .is (.a 0) 5, .ne (.a 0) 8, .ne (.a 0) 0, .is (.a 6) 0, .le (.a 5) 2147483647, .ge (.a 5) (-2147483648)]) : MemJ val :=
  leaf h [(.a 0), (.a 1), (.a 2), (.a 3), (.a 4), (.a 5), (.a 6), (.c 0)] rfl (by kernel_rfl)

theorem memJ31 (val : Nat → Int) (h : Holds val [.ne (.a 4) 0, .is (.a 3) 0, .is (.a 2) 0, .le (.a 1) 15, .ge (.a 1) 0, .is (.a 0) 5, .ne (.a 0) 8, .ne (.a 0) 0, .is (.a 6) 0, .le (.a 5) 2147483647, .ge (.a 5) (-2147483648)]) : MemJ val :=
  leaf h [(.c 0), (.c 0), (.c 0), (.c 0), (.c 0), (.c 0), (.c 0), (.c 2)] rfl (by kernel_rfl)

theorem memJ32 (val : Nat → Int) (h : Holds val [.ne (.a 3) 0, .is (.a 2) 0, .le (.a 1) 15, .ge (.a 1) 0, .is (.a 0) 5, .ne (.a 0) 8, .ne (.a 0) 0, .is (.a 6) 0, .le (.a 5) 2147483647, .ge (.a 5) (-2147483648)]) : MemJ val :=
  leaf h [(.c 0), (.c 0), (.c 0), (.c 0), (.c 0), (.c 0), (.c 0), (.c 2)] rfl (by kernel_rfl)

theorem memJ33 (val : Nat → Int) (h : Holds val [.is (.a 1) 4, .is (.a 3) 4, .is (.a 4) 1, .le (.a 3) 15, .ge (.a 3) 0, .is (.a 2) 5, .ne (.a 2) 0, .le (.a 1) 15, .ge (.a 1) 0, .is (.a 0) 5, .ne (.a 0) 8, .ne (.a 0) 0, .is (.a 6) 0, .le (.a 5) 2147483647, .ge (.a 5) (-2147483648)]) : MemJ val :=
  leaf h [(.c 0), (.c 0), (.c 0), (.c 0), (.c 0), (.c 0), (.c 0), (.c 2)] rfl (by kernel_rfl)

theorem memJ34 (val : Nat → Int) (h : Holds val [.ne (.a 1) 4, .is (.a 3) 4, .is (.a 4) 1, .le (.a 3) 15, .ge (.a 3) 0, .is (.a 2) 5, .ne (.a 2) 0, .le (.a 1) 15, .ge (.a 1) 0, .is (.a 0) 5, .ne (.a 0) 8, .ne (.a 0) 0, .is (.a 6) 0, .le (.a 5) 2147483647, .ge (.a 5) (-2147483648)]) : MemJ val :=
  leaf h [(.a 2), (.a 3), (.a 0), (.a 1), (.a 4), (.a 5), (.a 6), (.c 0)] rfl (by kernel_rfl)

theorem memJ35 (val : Nat → Int) (h : Holds val [.ne (.a 3) 4, .is (.a 4) 1, .le (.a 3) 15, .ge (.a 3) 0, .is (.a 2) 5, .ne (.a 2) 0, .le (.a 1) 15, .ge (.a 1) 0, .is (.a 0) 5, .ne (.a 0) 8, .ne (.a 0) 0, .is (.a 6) 0, .le (.a 5) 2147483647, .ge (.a 5) (-2147483648)]) : MemJ val :=
  leaf h [(.a 0), (.a 1), (.a 2), (.a 3), (.a 4), (.a 5), (.a 6), (.c 0)] rfl (by kernel_rfl)

theorem memJ36 (val : Nat → Int) (h : Holds val [.is (.a 3) 4, .is (.a 4) 2, .ne (.a 4) 1, .le (.a 3) 15, .ge (.a 3) 0, .is (.a 2) 5, .ne (.a 2) 0, .le (.a 1) 15, .ge (.a 1) 0, .is (.a 0) 5, .ne (.a 0) 8, .ne (.a 0) 0, .is (.a 6) 0, .le (.a 5) 2147483647, .ge (.a 5) (-2147483648)]) : MemJ val :=
  leaf h [(.c 0), (.c 0), (.c 0), (.c 0), (.c 0), (.c 0), (.c 0), (.c 2)] rfl (by kernel_rfl)

theorem memJ37 (val : Nat → Int) (h : Holds val [.ne (.a 3) 4, .is (.a 4) 2, .ne (.a 4) 1, .le (.a 3) 15, .ge (.a 3) 0, .is (.a 2) 5, .ne (.a 2) 0, .le (.a 1) 15, .ge (.a 1) 0, .is (.a 0) 5, .ne (.a 0) 8, .ne (.a 0) 0, .is (.a 6) 0, .le (.a 5) 2147483647, .ge (.a 5) (-2147483648)]) : MemJ val :=
  leaf h [(.a 0), (.a 1), (.a 2), (.a 3), (.a 4), (.a 5), (.a 6), (.c 0)] rfl (by kernel_rfl)

theorem memJ38 (val : Nat → Int) (h : Holds val [.is (.a 3) 4, .is (.a 4) 4, .ne (.a 4) 2, .ne (.a 4) 1, .le (.a 3) 15, .ge (.a 3) 0, .is (.a 2) 5, .ne (.a 2) 0, .le (.a 1) 15, .ge (.a 1) 0, .is (.a 0) 5, .ne (.a 0) 8, .ne (.a 0) 0, .is (.a 6) 0, .le (.a 5) 2147483647, .ge (.a 5) (-2147483648)]) : MemJ val :=
  leaf h [(.c 0), (.c 0), (.c 0), (.c 0), (.c 0), (.c 0), (.c 0), (.c 2)] rfl (by kernel_rfl)

theorem memJ39 (val : Nat → Int) (h : Holds val [.ne (.a 3) 4, .is (.a 4) 4, .ne (.a 4) 2, .ne (.a 4) 1, .le (.a 3) 15, .ge (.a 3) 0, .is (.a 2) 5, .ne (.a 2) 0, .le (.a 1) 15, .ge (.a 1) 0, .is (.a 0) 5, .ne (.a 0) 8, .ne (.a 0) 0, .is (.a 6) 0, .le (.a 5) 2147483647, .ge (.a 5) (-2147483648)]) : MemJ val :=
  leaf h [(.a 0), (.a 1), (.a 2), (.a 3), (.a 4), (.a 5), (.a 6), (.c 0)] rfl (by kernel_rfl)

theorem memJ40 (val : Nat → Int) (h : Holds val [.is (.a 3) 4, .is (.a 4) 8, .ne (.a 4) 4, .ne (.a 4) 2, .ne (.a 4) 1, .le (.a 3) 15, .ge (.a 3) 0, .is (.a 2) 5, .ne (.a 2) 0, .le (.a 1) 15, .ge (.a 1) 0, .is (.a 0) 5, .ne (.a 0) 8, .ne (.a 0) 0, .is (.a 6) 0, .le (.a 5) 2147483647, .ge (.a 5) (-2147483648)]) : MemJ val :=
  leaf h [(.c 0), (.c 0), (.c 0), (.c 0), (.c 0), (.c 0), (.c 0), (.c 2)] rfl (by kernel_rfl)

theorem memJ41 (val : Nat → Int) (h : Holds val [.ne (.a 3) 4, .is (.a 4) 8, .ne (.a 4) 4, .ne (.a 4) 2, .ne (.a 4) 1, .le (.a 3) 15, .ge (.a 3) 0, .is (.a 2) 5, .ne (.a 2) 0, .le (.a 1) 15, .ge (.a 1) 0, .is (.a 0) 5, .ne (.a 0) 8, .ne (.a 0) 0, .is (.a 6) 0, .le (.a 5) 2147483647, .ge (.a 5) (-2147483648)]) : MemJ val :=
  leaf h [(.a 0), (.a 1), (.a 2), (.a 3), (.a 4), (.a 5), (.a 6), (.c 0)] rfl (by kernel_rfl)

theorem memJ42 (val : Nat → Int) (h : Holds val [.ne (.a 4) 8, .ne (.a 4) 4, .ne (.a 4) 2, .ne (.a 4) 1, .le (.a 3) 15, .ge (.a 3) 0, .is (.a 2) 5, .ne (.a 2) 0, .le (.a 1) 15, .ge (.a 1) 0, .is (.a 0) 5, .ne (.a 0) 8, .ne (.a 0) 0, .is (.a 6) 0, .le (.a 5) 2147483647, .ge (.a 5) (-2147483648)]) : MemJ val :=
  leaf h [(.c 0), (.c 0), (.c 0), (.c 0), (.c 0), (.c 0), (.c 0), (.c 2)] rfl (by kernel_rfl)

theorem memJ43 (val : Nat → Int) (h : Holds val [.ge (.a 3) 16, .ge (.a 3) 0, .is (.a 2) 5, .ne (.a 2) 0, .le (.a 1) 15, .ge (.a 1) 0, .is (.a 0) 5, .ne (.a 0) 8, .ne (.a 0) 0, .is (.a 6) 0, .le (.a 5) 2147483647, .ge (.a 5) (-2147483648)]) : MemJ val :=
  leaf h [(.c 0), (.c 0), (.c 0), (.c 0), (.c 0), (.c 0), (.c 0), (.c 2)] rfl (by kernel_rfl)

theorem memJ44 (val : Nat → Int) (h : Holds val [.le (.a 3) (-1), .is (.a 2) 5, .ne (.a 2) 0, .le (.a 1) 15, .ge (.a 1) 0, .is (.a 0) 5, .ne (.a 0) 8, .ne (.a 0) 0, .is (.a 6) 0, .le (.a 5) 2147483647, .ge (.a 5) (-2147483648)]) : MemJ val :=
  leaf h [(.c 0), (.c 0), (.c 0), (.c 0), (.c 0), (.c 0), (.c 0), (.c 2)] rfl (by kernel_rfl)

theorem memJ45 (val : Nat → Int) (h : Holds val [.ne (.a 2) 5, .ne (.a 2) 0, .le (.a 1) 15, .ge (.a 1) 0, .is (.a 0) 5, .ne (.a 0) 8, .ne (.a 0) 0, .is (.a 6) 0, .le (.a 5) 2147483647, .ge (.a 5) (-2147483648)]) : MemJ val :=
  leaf h [(.c 0), (.c 0), (.c 0), (.c 0), (.c 0), (.c 0), (.c 0), (.c 2)] rfl (by kernel_rfl)

theorem memJ46 (val : Nat → Int) (h : Holds val [.ge (.a 1) 16, .ge (.a 1) 0, .is (.a 0) 5, .ne (.a 0) 8, .ne (.a 0) 0, .is (.a 6) 0, .le (.a 5) 2147483647, .ge (.a 5) (-2147483648)]) : MemJ val :=
  leaf h [(.c 0), (.c 0), (.c 0), (.c 0), (.c 0), (.c 0), (.c 0), (.c 2)] rfl (by kernel_rfl)

theorem memJ47 (val : Nat → Int) (h : Holds val [.le (.a 1) (-1), .is (.a 0) 5, .ne (.a 0) 8, .ne (.a 0) 0, .is (.a 6) 0, .le (.a 5) 2147483647, .ge (.a 5) (-2147483648)]) : MemJ val :=
  leaf h [(.c 0), (.c 0), (.c 0), (.c 0), (.c 0), (.c 0), (.c 0), (.c 2)] rfl (by kernel_rfl)

theorem memJ48 (val : Nat → Int) (h : Holds val [.ne (.a 0) 5, .ne (.a 0) 8, .ne (.a 0) 0, .is (.a 6) 0, .le (.a 5) 2147483647, .ge (.a 5) (-2147483648)]) : MemJ val :=
  leaf h [(.c 0), (.c 0), (.c 0), (.c 0), (.c 0), (.c 0), (.c 0), (.c 2)] rfl (by kernel_rfl)

theorem memJ49 (val : Nat → Int) (h : Holds val [.is (.a 4) 0, .is (.a 3) 0, .is (.a 2) 0, .is (.a 1) 0, .is (.a 0) 0, .is (.a 6) 1, .ne (.a 6) 0, .le (.a 5) 2147483647, .ge (.a 5) (-2147483648)]) : MemJ val :=
  leaf h [(.a 0), (.a 1), (.a 2), (.a 3), (.a 4), (.a 5), (.a 6), (.c 0)] rfl (by kernel_rfl)

theorem memJ50 (val : Nat → Int) (h : Holds val [.ne (.a 4) 0, .is (.a 3) 0, .is (.a 2) 0, .is (.a 1) 0, .is (.a 0) 0, .is (.a 6) 1, .ne (.a 6) 0, .le (.a 5) 2147483647, .ge (.a 5) (-2147483648)]) : MemJ val :=
  leaf h [(.c 0), (.c 0), (.c 0), (.c 0), (.c 0), (.c 0), (.c 0), (.c 2)] rfl (by kernel_rfl)

theorem memJ51 (val : Nat → Int) (h : Holds val [.ne (.a 3) 0, .is (.a 2) 0, .is (.a 1) 0, .is (.a 0) 0, .is (.a 6) 1, .ne (.a 6) 0, .le (.a 5) 2147483647, .ge (.a 5) (-2147483648)]) : MemJ val :=
  leaf h [(.c 0), (.c 0), (.c 0), (.c 0), (.c 0), (.c 0), (.c 0), (.c 2)] rfl (by kernel_rfl)

theorem memJ52 (val : Nat → Int) (h : Holds val [.is (.a 3) 4, .is (.a 4) 1, .le (.a 3) 15, .ge (.a 3) 0, .is (.a 2) 5, .ne (.a 2) 0, .is (.a 1) 0, .is (.a 0) 0, .is (.a 6) 1, .ne (.a 6) 0, .le (.a 5) 2147483647, .ge (.a 5) (-2147483648)]) : MemJ val :=
  leaf h [(.a 2), (.a 3), (.c 0), (.c 0), (.c 0), (.a 5), (.a 6), (.c 0)] rfl (by kernel_rfl)

theorem memJ53 (val : Nat → Int) (h : Holds val [.ne (.a 3) 4, .is (.a 4) 1, .le (.a 3) 15, .ge (.a 3) 0, .is (.a 2) 5, .ne (.a 2) 0, .is (.a 1) 0, .is (.a 0) 0, .is (.a 6) 1, .ne (.a 6) 0, .le (.a 5) 2147483647, .ge (.a 5) (-2147483648)]) : MemJ val :=
  leaf h [(.a 2), (.a 3), (.c 0), (.c 0), (.c 0), (.a 5), (.a 6), (.c 0)] rfl (by kernel_rfl)

theorem memJ54 (val : Nat → Int) (h : Holds val [.is (.a 3) 4, .is (.a 4) 2, .ne (.a 4) 1, .le (.a 3) 15, .ge (.a 3) 0, .is (.a 2) 5, .ne (.a 2) 0, .is (.a 1) 0, .is (.a 0) 0, .is (.a 6) 1, .ne (.a 6) 0, .le (.a 5) 2147483647, .ge (.a 5) (-2147483648)]) : MemJ val :=
  leaf h [(.c 0), (.c 0), (.c 0), (.c 0), (.c 0), (.c 0), (.c 0), (.c 2)] rfl (by kernel_rfl)

theorem memJ55 (val : Nat → Int) (h : Holds val [.ne (.a 3) 4, .is (.a 4) 2, .ne (.a 4) 1, .le (.a 3) 15, .ge (.a 3) 0, .is (.a 2) 5, .ne (.a 2) 0, .is (.a 1) 0, .is (.a 0) 0, .is (.a 6) 1, .ne (.a 6) 0, .le (.a 5) 2147483647, .ge (.a 5) (-2147483648)]) : MemJ val :=
  leaf h [(.a 0), (.a 1), (.a 2), (.a 3), (.a 4), (.a 5), (.a 6), (.c 0)] rfl (by kernel_rfl)

theorem memJ56 (val : Nat → Int) (h : Holds val [.is (.a 3) 4, .is (.a 4) 4, .ne (.a 4) 2, .ne (.a 4) 1, .le (.a 3) 15, .ge (.a 3) 0, .is (.a 2) 5, .ne (.a 2) 0, .is (.a 1) 0, .is (.a 0) 0, .is (.a 6) 1, .ne (.a 6) 0, .le (.a 5) 2147483647, .ge (.a 5) (-2147483648)]) : MemJ val :=
  leaf h [(.c 0), (.c 0), (.c 0), (.c 0), (.c 0), (.c 0), (.c 0), (.c 2)] rfl (by kernel_rfl)

theorem memJ57 (val : Nat → Int) (h : Holds val [.ne (.a 3) 4, .is (.a 4) 4, .ne (.a 4) 2, .ne (.a 4) 1, .le (.a 3) 15, .ge (.a 3) 0, .is (.a 2) 5, .ne (.a 2) 0, .is (.a 1) 0, .is (.a 0) 0, .is (.a 6) 1, .ne (.a 6) 0, .le (.a 5) 2147483647, .ge (.a 5) (-2147483648)]) : MemJ val :=
  leaf h [(.a 0), (.a 1), (.a 2), (.a 3), (.a 4), (.a 5), (.a 6), (.c 0)] rfl (by kernel_rfl)

theorem memJ58 (val : Nat → Int) (h : Holds val [.is (.a 3) 4, .is (.a 4) 8, .ne (.a 4) 4, .ne (.a 4) 2, .ne (.a 4) 1, .le (.a 3) 15, .ge (.a 3) 0, .is (.a 2) 5, .ne (.a 2) 0, .is (.a 1) 0, .is (.a 0) 0, .is (.a 6) 1, .ne (.a 6) 0, .le (.a 5) 2147483647, .ge (.a 5) (-2147483648)]) : MemJ val :=
  leaf h [(.c 0), (.c 0), (.c 0), (.c 0), (.c 0), (.c 0), (.c 0), (.c 2)] rfl (by kernel_rfl)

theorem memJ59 (val : Nat → Int) (h : Holds val [.ne (.a 3) 4, .is (.a 4) 8, .ne (.a 4) 4, .ne (.a 4) 2, .ne (.a 4) 1, .le (.a 3) 15, .ge (.a 3) 0, .is (.a 2) 5, .ne (.a 2) 0, .is (.a 1) 0, .is (.a 0) 0, .is (.a 6) 1, .ne (.a 6) 0, .le (.a 5) 2147483647, .ge (.a 5) (-2147483648)]) : MemJ val :=
  leaf h [(.a 0), (.a 1), (.a 2), (.a 3), (.a 4), (.a 5), (.a 6), (.c 0)] rfl (by kernel_rfl)

theorem memJ60 (val : Nat → Int) (h : Holds val [.ne (.a 4) 8, .ne (.a 4) 4, .ne (.a 4) 2, .ne (.a 4) 1, .le (.a 3) 15, .ge (.a 3) 0, .is (.a 2) 5, .ne (.a 2) 0, .is (.a 1) 0, .is (.a 0) 0, .is (.a 6) 1, .ne (.a 6) 0, .le (.a 5) 2147483647, .ge (.a 5) (-2147483648)]) : MemJ val :=
  leaf h [(.c 0), (.c 0), (.c 0), (.c 0), (.c 0), (.c 0), (.c 0), (.c 2)] rfl (by kernel_rfl)

theorem memJ61 (val : Nat → Int) (h : Holds val [.ge (.a 3) 16, .ge (.a 3) 0, .is (.a 2) 5, .ne (.a 2) 0, .is (.a 1) 0, .is (.a 0) 0, .is (.a 6) 1, .ne (.a 6) 0, .le (.a 5) 2147483647, .ge (.a 5) (-2147483648)]) : MemJ val :=
  leaf h [(.c 0), (.c 0), (.c 0), (.c 0), (.c 0), (.c 0), (.c 0), (.c 2)] rfl (by kernel_rfl)

theorem memJ62 (val : Nat → Int) (h : Holds val [.le (.a 3) (-1), .is (.a 2) 5, .ne (.a 2) 0, .is (.a 1) 0, .is (.a 0) 0, .is (.a 6) 1, .ne (.a 6) 0, .le (.a 5) 2147483647, .ge (.a 5) (-2147483648)]) : MemJ val :=
  leaf h [(.c 0), (.c 0), (.c 0), (.c 0), (.c 0), (.c 0), (.c 0), (.c 2)] rfl (by kernel_rfl)

theorem memJ63 (val : Nat → Int) (h : Holds val [.ne (.a 2) 5, .ne (.a 2) 0, .is (.a 1) 0, .is (.a 0) 0, .is (.a 6) 1, .ne (.a 6) 0, .le (.a 5) 2147483647, .ge (.a 5) (-2147483648)]) : MemJ val :=
  leaf h [(.c 0), (.c 0), (.c 0), (.c 0), (.c 0), (.c 0), (.c 0), (.c 2)] rfl (by kernel_rfl)

theorem memJ64 (val : Nat → Int) (h : Holds val [.ne (.a 1) 0, .is (.a 0) 0, .is (.a 6) 1, .ne (.a 6) 0, .le (.a 5) 2147483647, .ge (.a 5) (-2147483648)]) : MemJ val :=
  leaf h [(.c 0), (.c 0), (.c 0), (.c 0), (.c 0), (.c 0), (.c 0), (.c 2)] rfl (by kernel_rfl)

theorem memJ65 (val : Nat → Int) (h : Holds val [.is (.a 4) 0, .is (.a 3) 0, .is (.a 2) 0, .is (.a 1) 0, .is (.a 0) 8, .ne (.a 0) 0, .is (.a 6) 1, .ne (.a 6) 0, .le (.a 5) 2147483647, .ge (.a 5) (-2147483648)]) : MemJ val :=
  leaf h [(.a 0), (.a 1), (.a 2), (.a 3), (.a 4), (.a 5), (.a 6), (.c 0)] rfl (by kernel_rfl)

theorem memJ66 (val : Nat → Int) (h : Holds val [.ne (.a 4) 0, .is (.a 3) 0, .is (.a 2) 0, .is (.a 1) 0, .is (.a 0) 8, .ne (.a 0) 0, .is (.a 6) 1, .ne (.a 6) 0, .le (.a 5) 2147483647, .ge (.a 5) (-2147483648)]) : MemJ val :=
  leaf h [(.c 0), (.c 0), (.c 0), (.c 0), (.c 0), (.c 0), (.c 0), (.c 2)] rfl (by kernel_rfl)

theorem memJ67 (val : Nat → Int) (h : Holds val [.ne (.a 3) 0, .is (.a 2) 0, .is (.a 1) 0, .is (.a 0) 8, .ne (.a 0) 0, .is (.a 6) 1, .ne (.a 6) 0, .le (.a 5) 2147483647, .ge (.a 5) (-2147483648)]) : MemJ val :=
  leaf h [(.c 0), (.c 0), (.c 0), (.c 0), (.c 0), (.c 0), (.c 0), (.c 2)] rfl (by kernel_rfl)

theorem memJ68 (val : Nat → Int) (h : Holds val [.is (.a 4) 1, .le (.a 3) 15, .ge (.a 3) 0, .is (.a 2) 5, .ne (.a 2) 0, .is (.a 1) 0, .is (.a 0) 8, .ne (.a 0) 0, .is (.a 6) 1, .ne (.a 6) 0, .le (.a 5) 2147483647, .ge (.a 5) (-2147483648)]) : MemJ val :=
  leaf h [(.c 0), (.c 0), (.c 0), (.c 0), (.c 0), (.c 0), (.c 0), (.c 2)] rfl (by kernel_rfl)

theorem memJ69 (val : Nat → Int) (h : Holds val [.is (.a 4) 2, .ne (.a 4) 1, .le (.a 3) 15, .ge (.a 3) 0, .is (.a 2) 5, .ne (.a 2) 0, .is (.a 1) 0, .is (.a 0) 8, .ne (.a 0) 0, .is (.a 6) 1, .ne (.a 6) 0, .le (.a 5) 2147483647, .ge (.a 5) (-2147483648)]) : MemJ val :=
  leaf h [(.c 0), (.c 0), (.c 0), (.c 0), (.c 0), (.c 0), (.c 0), (.c 2)] rfl (by kernel_rfl)

theorem memJ70 (val : Nat → Int) (h : Holds val [.is (.a 4) 4, .ne (.a 4) 2, .ne (.a 4) 1, .le (.a 3) 15, .ge (.a 3) 0, .is (.a 2) 5, .ne (.a 2) 0, .is (.a 1) 0, .is (.a 0) 8, .ne (.a 0) 0, .is (.a 6) 1, .ne (.a 6) 0, .le (.a 5) 2147483647, .ge (.a 5) (-2147483648)]) : MemJ val :=
  leaf h [(.c 0), (.c 0), (.c 0), (.c 0), (.c 0), (.c 0), (.c 0), (.c 2)] rfl (by kernel_rfl)

theorem memJ71 (val : Nat → Int) (h : Holds val [.is (.a 4) 8, .ne (.a 4) 4, .ne (.a 4) 2, .ne (.a 4) 1, .le (.a 3) 15, .ge (.a 3) 0, .is (.a 2) 5, .ne (.a 2) 0, .is (.a 1) 0, .is (.a 0) 8, .ne (.a 0) 0, .is (.a 6) 1, .ne (.a 6) 0, .le (.a 5) 2147483647, .ge (.a 5) (-2147483648)]) : MemJ val :=
  leaf h [(.c 0), (.c 0), (.c 0), (.c 0), (.c 0), (.c 0), (.c 0), (.c 2)] rfl (by kernel_rfl)

theorem memJ72 (val : Nat → Int) (h : Holds val [.ne (.a 4) 8, .ne (.a 4) 4, .ne (.a 4) 2, .ne (.a 4) 1, .le (.a 3) 15, .ge (.a 3) 0, .is (.a 2) 5, .ne (.a 2) 0, .is (.a 1) 0, .is (.a 0) 8, .ne (.a 0) 0, .is (.a 6) 1, .ne (.a 6) 0, .le (.a 5) 2147483647, .ge (.a 5) (-2147483648)]) : MemJ val :=
  leaf h [(.c 0), (.c 0), (.c 0), (.c 0), (.c 0), (.c 0), (.c 0), (.c 2)] rfl (by kernel_rfl)

theorem memJ73 (val : Nat → Int) (h : Holds val [.ge (.a 3) 16, .ge (.a 3) 0, .is (.a 2) 5, .ne (.a 2) 0, .is (.a 1) 0, .is (.a 0) 8, .ne (.a 0) 0, .is (.a 6) 1, .ne (.a 6) 0, .le (.a 5) 2147483647, .ge (.a 5) (-2147483648)]) : MemJ val :=
  leaf h [(.c 0), (.c 0), (.c 0), (.c 0), (.c 0), (.c 0), (.c 0), (.c 2)] rfl (by kernel_rfl)

theorem memJ74 (val : Nat → Int) (h : Holds val [.le (.a 3) (-1), .is (.a 2) 5, .ne (.a 2) 0, .is (.a 1) 0, .is (.a 0) 8, .ne (.a 0) 0, .is (.a 6) 1, .ne (.a 6) 0, .le (.a 5) 2147483647, .ge (.a 5) (-2147483648)]) : MemJ val :=
  leaf h [(.c 0), (.c 0), (.c 0), (.c 0), (.c 0), (.c 0), (.c 0), (.c 2)] rfl (by kernel_rfl)

theorem memJ75 (val : Nat → Int) (h : Holds val [.ne (.a 2) 5, .ne (.a 2) 0, .is (.a 1) 0, .is (.a 0) 8, .ne (.a 0) 0, .is (.a 6) 1, .ne (.a 6) 0, .le (.a 5) 2147483647, .ge (.a 5) (-2147483648)]) : MemJ val :=
  leaf h [(.c 0), (.c 0), (.c 0), (.c 0), (.c 0), (.c 0), (.c 0), (.c 2)] rfl (by kernel_rfl)

theorem memJ76 (val : Nat → Int) (h : Holds val [.ne (.a 1) 0, .is (.a 0) 8, .ne (.a 0) 0, .is (.a 6) 1, .ne (.a 6) 0, .le (.a 5) 2147483647, .ge (.a 5) (-2147483648)]) : MemJ val :=
  leaf h [(.c 0), (.c 0), (.c 0), (.c 0), (.c 0), (.c 0), (.c 0), (.c 2)] rfl (by kernel_rfl)

theorem memJ77 (val : Nat → Int) (h : Holds val [.is (.a 4) 0, .is (.a 3) 0, .is (.a 2) 0, .le (.a 1) 15, .ge (.a 1) 0, .is (.a 0) 5, .ne (.a 0) 8, .ne (.a 0) 0, .is (.a 6) 1, .ne (.a 6) 0, .le (.a 5) 2147483647, .ge (.a 5) (-2147483648)]) : MemJ val :=
  leaf h [(.a 0), (.a 1), (.a 2), (.a 3), (.a 4), (.a 5), (.a 6), (.c 0)] rfl (by kernel_rfl)

theorem memJ78 (val : Nat → Int) (h : Holds val [.ne (.a 4) 0, .is (.a 3) 0, .is (.a 2) 0, .le (.a 1) 15, .ge (.a 1) 0, .is (.a 0) 5, .ne (.a 0) 8, .ne (.a 0) 0, .is (.a 6) 1, .ne (.a 6) 0, .le (.a 5) 2147483647, .ge (.a 5) (-2147483648)]) : MemJ val :=
  leaf h [(.c 0), (.c 0), (.c 0), (.c 0), (.c 0), (.c 0), (.c 0), (.c 2)] rfl (by kernel_rfl)

theorem memJ79 (val : Nat → Int) (h : Holds val [.ne (.a 3) 0, .is (.a 2) 0, .le (.a 1) 15, .ge (.a 1) 0, .is (.a 0) 5, .ne (.a 0) 8, .ne (.a 0) 0, .is (.a 6) 1, .ne (.a 6) 0, .le (.a 5) 2147483647, .ge (.a 5) (-2147483648)]) : MemJ val :=
  leaf h [(.c 0), (.c 0), (.c 0), (.c 0), (.c 0), (.c 0), (.c 0), (.c 2)] rfl (by kernel_rfl)

theorem memJ80 (val : Nat → Int) (h : Holds val [.is (.a 1) 4, .is (.a 3) 4, .is (.a 4) 1, .le (.a 3) 15, .ge (.a 3) 0, .is (.a 2) 5, .ne (.a 2) 0, .le (.a 1) 15, .ge (.a 1) 0, .is (.a 0) 5, .ne (.a 0) 8, .ne (.a 0) 0, .is (.a 6) 1, .ne (.a 6) 0, .le (.a 5) 2147483647, .ge (.a 5) (-2147483648)]) : MemJ val :=
  leaf h [(.c 0), (.c 0), (.c 0), (.c 0), (.c 0), (.c 0), (.c 0), (.c 2)] rfl (by kernel_rfl)

theorem memJ81 (val : Nat → Int) (h : Holds val [.ne (.a 1) 4, .is (.a 3) 4, .is (.a 4) 1, .le (.a 3) 15, .ge (.a 3) 0, .is (.a 2) 5, .ne (.a 2) 0, .le (.a 1) 15, .ge (.a 1) 0, .is (.a 0) 5, .ne (.a 0) 8, .ne (.a 0) 0, .is (.a 6) 1, .ne (.a 6) 0, .le (.a 5) 2147483647, .ge (.a 5) (-2147483648)]) : MemJ val :=
  leaf h [(.a 2), (.a 3), (.a 0), (.a 1), (.a 4), (.a 5), (.a 6), (.c 0)] rfl (by kernel_rfl)

theorem memJ82 (val : Nat → Int) (h : Holds val [.ne (.a 3) 4, .is (.a 4) 1, .le (.a 3) 15, .ge (.a 3) 0, .is (.a 2) 5, .ne (.a 2) 0, .le (.a 1) 15, .ge (.a 1) 0, .is (.a 0) 5, .ne (.a 0) 8, .ne (.a 0) 0, .is (.a 6) 1, .ne (.a 6) 0, .le (.a 5) 2147483647, .ge (.a 5) (-2147483648)]) : MemJ val :=
  leaf h [(.a 0), (.a 1), (.a 2), (.a 3), (.a 4), (.a 5), (.a 6), (.c 0)] rfl (by kernel_rfl)

theorem memJ83 (val : Nat → Int) (h : Holds val [.is (.a 3) 4, .is (.a 4) 2, .ne (.a 4) 1, .le (.a 3) 15, .ge (.a 3) 0, .is (.a 2) 5, .ne (.a 2) 0, .le (.a 1) 15, .ge (.a 1) 0, .is (.a 0) 5, .ne (.a 0) 8, .ne (.a 0) 0, .is (.a 6) 1, .ne (.a 6) 0, .le (.a 5) 2147483647, .ge (.a 5) (-2147483648)]) : MemJ val :=
  leaf h [(.c 0), (.c 0), (.c 0), (.c 0), (.c 0), (.c 0), (.c 0), (.c 2)] rfl (by kernel_rfl)

theorem memJ84 (val : Nat → Int) (h : Holds val [.ne (.a 3) 4, .is (.a 4) 2, .ne (.a 4) 1, .le (.a 3) 15, .ge (.a 3) 0, .is (.a 2) 5, .ne (.a 2) 0, .le (.a 1) 15, .ge (.a 1) 0, .is (.a 0) 5, .ne (.a 0) 8, .ne (.a 0) 0, .is (.a 6) 1, .ne (.a 6) 0, .le (.a 5) 2147483647, .ge (.a 5) (-2147483648)]) : MemJ val :=
  leaf h [(.a 0), (.a 1), (.a 2), (.a 3), (.a 4), (.a 5), (.a 6), (.c 0)] rfl (by kernel_rfl)

theorem memJ85 (val : Nat → Int) (h : Holds val [.is (.a 3) 4, .is (.a 4) 4, .ne (.a 4) 2, .ne (.a 4) 1, .le (.a 3) 15, .ge (.a 3) 0, .is (.a 2) 5, .ne (.a 2) 0, .le (.a 1) 15, .ge (.a 1) 0, .is (.a 0) 5, .ne (.a 0) 8, .ne (.a 0) 0, .is (.a 6) 1, .ne (.a 6) 0, .le (.a 5) 2147483647, .ge (.a 5) (-2147483648)]) : MemJ val :=
  leaf h [(.c 0), (.c 0), (.c 0), (.c 0), (.c 0), (.c 0), (.c 0), (.c 2)] rfl (by kernel_rfl)

theorem memJ86 (val : Nat → Int) (h : Holds val [.ne (.a 3) 4, .is (.a 4) 4, .ne (.a 4) 2, .ne (.a 4) 1, .le (.a 3) 15, .ge (.a 3) 0, .is (.a 2) 5, .ne (.a 2) 0, .le (.a 1) 15, .ge (.a 1) 0, .is (.a 0) 5, .ne (.a 0) 8, .ne (.a 0) 0, .is (.a 6) 1, .ne (.a 6) 0, .le (.a 5) 2147483647, .ge (.a 5) (-2147483648)]) : MemJ val :=
  leaf h [(.a 0), (.a 1), (.a 2), (.a 3), (.a 4), (.a 5), (.a 6), (.c 0)] rfl (by kernel_rfl)

theorem memJ87 (val : Nat → Int) (h : Holds val [.is (.a 3) 4, .is (.a 4) 8, .ne (.a 4) 4, .ne (.a 4) 2, .ne (.a 4) 1, .le (.a 3) 15, .ge (.a 3) 0, .is (.a 2) 5, .ne (.a 2) 0, .le (.a 1) 15, .ge (.a 1) 0, .is (.a 0) 5, .ne (.a 0) 8, .ne (.a 0) 0, .is (.a 6) 1, .ne (.a 6) 0, .le (.a 5) 2147483647, .ge (.a 5) (-2147483648)]) : MemJ val :=
  leaf h [(.c 0), (.c 0), (.c 0), (.c 0), (.c 0), (.c 0), (.c 0), (.c 2)] rfl (by kernel_rfl)

theorem memJ88 (val : Nat → Int) (h : Holds val [.ne (.a 3) 4, .is (.a 4) 8, .ne (.a 4) 4, .ne (.a 4) 2, .ne (.a 4) 1, .le (.a 3) 15, .ge (.a 3) 0, .is (.a 2) 5, .ne (.a 2) 0, .le (.a 1) 15, .ge (.a 1) 0, .is (.a 0) 5, .ne (.a 0) 8, .ne (.a 0) 0, .is (.a 6) 1, .ne (.a 6) 0, .le (.a 5) 2147483647, .ge (.a 5) (-2147483648)]) : MemJ val :=
  leaf h [(.a 0), (.a 1), (.a 2), (.a 3), (.a 4), (.a 5), (.a 6), (.c 0)] rfl (by kernel_rfl)

theorem memJ89 (val : Nat → Int) (h : Holds val [.ne (.a 4) 8, .ne (.a 4) 4, .ne (.a 4) 2, .ne (.a 4) 1, .le (.a 3) 15, .ge (.a 3) 0, .is (.a 2) 5, .ne (.a 2) 0, .le (.a 1) 15, .ge (.a 1) 0, .is (.a 0) 5, .ne (.a 0) 8, .ne (.a 0) 0, .is (.a 6) 1, .ne (.a 6) 0, .le (.a 5) 2147483647, .ge (.a 5) (-2147483648)]) : MemJ val :=
  leaf h [(.c 0), (.c 0), (.c 0), (.c 0), (.c 0), (.c 0), (.c 0), (.c 2)] rfl (by kernel_rfl)

theorem memJ90 (val : Nat → Int) (h : Holds val [.ge (.a 3) 16, .ge (.a 3) 0, .is (.a 2) 5, .ne (.a 2) 0, .le (.a 1) 15, .ge (.a 1) 0, .is (.a 0) 5, .ne (.a 0) 8, .ne (.a 0) 0, .is (.a 6) 1, .ne (.a 6) 0, .le (.a 5) 2147483647, .ge (.a 5) (-2147483648)]) : MemJ val :=
  leaf h [(.c 0), (.c 0), (.c 0), (.c 0), (.c 0), (.c 0), (.c 0), (.c 2)] rfl (by kernel_rfl)

theorem memJ91 (val : Nat → Int) (h : Holds val [.le (.a 3) (-1), .is (.a 2) 5, .ne (.a 2) 0, .le (.a 1) 15, .ge (.a 1) 0, .is (.a 0) 5, .ne (.a 0) 8, .ne (.a 0) 0, .is (.a 6) 1, .ne (.a 6) 0, .le (.a 5) 2147483647, .ge (.a 5) (-2147483648)]) : MemJ val :=
  leaf h [(.c 0), (.c 0), (.c 0), (.c 0), (.c 0), (.c 0), (.c 0), (.c 2)] rfl (by kernel_rfl)

theorem memJ92 (val : Nat → Int) (h : Holds val [.ne (.a 2) 5, .ne (.a 2) 0, .le (.a 1) 15, .ge (.a 1) 0, .is (.a 0) 5, .ne (.a 0) 8, .ne (.a 0) 0, .is (.a 6) 1, .ne (.a 6) 0, .le (.a 5) 2147483647, .ge (.a 5) (-2147483648)]) : MemJ val :=
  leaf h [(.c 0), (.c 0), (.c 0), (.c 0), (.c 0), (.c 0), (.c 0), (.c 2)] rfl (by kernel_rfl)

theorem memJ93 (val : Nat → Int) (h : Holds val [.ge (.a 1) 16, .ge (.a 1) 0, .is (.a 0) 5, .ne (.a 0) 8, .ne (.a 0) 0, .is (.a 6) 1, .ne (.a 6) 0, .le (.a 5) 2147483647, .ge (.a 5) (-2147483648)]) : MemJ val :=
  leaf h [(.c 0), (.c 0), (.c 0), (.c 0), (.c 0), (.c 0), (.c 0), (.c 2)] rfl (by kernel_rfl)

theorem memJ94 (val : Nat → Int) (h : Holds val [.le (.a 1) (-1), .is (.a 0) 5, .ne (.a 0) 8, .ne (.a 0) 0, .is (.a 6) 1, .ne (.a 6) 0, .le (.a 5) 2147483647, .ge (.a 5) (-2147483648)]) : MemJ val :=
  leaf h [(.c 0), (.c 0), (.c 0), (.c 0), (.c 0), (.c 0), (.c 0), (.c 2)] rfl (by kernel_rfl)

theorem memJ95 (val : Nat → Int) (h : Holds val [.ne (.a 0) 5, .ne (.a 0) 8, .ne (.a 0) 0, .is (.a 6) 1, .ne (.a 6) 0, .le (.a 5) 2147483647, .ge (.a 5) (-2147483648)]) : MemJ val :=
  leaf h [(.c 0), (.c 0), (.c 0), (.c 0), (.c 0), (.c 0), (.c 0), (.c 2)] rfl (by kernel_rfl)

theorem memJ96 (val : Nat → Int) (h : Holds val [.is (.a 4) 0, .is (.a 3) 0, .is (.a 2) 0, .is (.a 1) 0, .is (.a 0) 0, .is (.a 6) 2, .ne (.a 6) 1, .ne (.a 6) 0, .le (.a 5) 2147483647, .ge (.a 5) (-2147483648)]) : MemJ val :=
  leaf h [(.a 0), (.a 1), (.a 2), (.a 3), (.a 4), (.a 5), (.a 6), (.c 0)] rfl (by kernel_rfl)

theorem memJ97 (val : Nat → Int) (h : Holds val [.ne (.a 4) 0, .is (.a 3) 0, .is (.a 2) 0, .is (.a 1) 0, .is (.a 0) 0, .is (.a 6) 2, .ne (.a 6) 1, .ne (.a 6) 0, .le (.a 5) 2147483647, .ge (.a 5) (-2147483648)]) : MemJ val :=
  leaf h [(.c 0), (.c 0), (.c 0), (.c 0), (.c 0), (.c 0), (.c 0), (.c 2)] rfl (by kernel_rfl)

theorem memJ98 (val : Nat → Int) (h : Holds val [.ne (.a 3) 0, .is (.a 2) 0, .is (.a 1) 0, .is (.a 0) 0, .is (.a 6) 2, .ne (.a 6) 1, .ne (.a 6) 0, .le (.a 5) 2147483647, .ge (.a 5) (-2147483648)]) : MemJ val :=
  leaf h [(.c 0), (.c 0), (.c 0), (.c 0), (.c 0), (.c 0), (.c 0), (.c 2)] rfl (by kernel_rfl)

theorem memJ99 (val : Nat → Int) (h : Holds val [.is (.a 3) 4, .is (.a 4) 1, .le (.a 3) 15, .ge (.a 3) 0, .is (.a 2) 5, .ne (.a 2) 0, .is (.a 1) 0, .is (.a 0) 0, .is (.a 6) 2, .ne (.a 6) 1, .ne (.a 6) 0, .le (.a 5) 2147483647, .ge (.a 5) (-2147483648)]) : MemJ val :=
  leaf h [(.a 2), (.a 3), (.c 0), (.c 0), (.c 0), (.a 5), (.a 6), (.c 0)] rfl (by kernel_rfl)

theorem memJ100 (val : Nat → Int) (h : Holds val [.ne (.a 3) 4, .is (.a 4) 1, .le (.a 3) 15, .ge (.a 3) 0, .is (.a 2) 5, .ne (.a 2) 0, .is (.a 1) 0, .is (.a 0) 0, .is (.a 6) 2, .ne (.a 6) 1, .ne (.a 6) 0, .le (.a 5) 2147483647, .ge (.a 5) (-2147483648)]) : MemJ val :=
  leaf h [(.a 2), (.a 3), (.c 0), (.c 0), (.c 0), (.a 5), (.a 6), (.c 0)] rfl (by kernel_rfl)

theorem memJ101 (val : Nat → Int) (h : Holds val [.is (.a 3) 4, .is (.a 4) 2, .ne (.a 4) 1, .le (.a 3) 15, .ge (.a 3) 0, .is (.a 2) 5, .ne (.a 2) 0, .is (.a 1) 0, .is (.a 0) 0, .is (.a 6) 2, .ne (.a 6) 1, .ne (.a 6) 0, .le (.a 5) 2147483647, .ge (.a 5) (-2147483648)]) : MemJ val :=
  leaf h [(.c 0), (.c 0), (.c 0), (.c 0), (.c 0), (.c 0), (.c 0), (.c 2)] rfl (by kernel_rfl)

theorem memJ102 (val : Nat → Int) (h : Holds val [.ne (.a 3) 4, .is (.a 4) 2, .ne (.a 4) 1, .le (.a 3) 15, .ge (.a 3) 0, .is (.a 2) 5, .ne (.a 2) 0, .is (.a 1) 0, .is (.a 0) 0, .is (.a 6) 2, .ne (.a 6) 1, .ne (.a 6) 0, .le (.a 5) 2147483647, .ge (.a 5) (-2147483648)]) : MemJ val :=
  leaf h [(.a 0), (.a 1), (.a 2), (.a 3), (.a 4), (.a 5), (.a 6), (.c 0)] rfl (by kernel_rfl)

theorem memJ103 (val : Nat → Int) (h : Holds val [.is (.a 3) 4, .is (.a 4) 4, .ne (.a 4) 2, .ne (.a 4) 1, .le (.a 3) 15, .ge (.a 3) 0, .is (.a 2) 5, .ne (.a 2) 0, .is (.a 1) 0, .is (.a 0) 0, .is (.a 6) 2, .ne (.a 6) 1, .ne (.a 6) 0, .le (.a 5) 2147483647, .ge (.a 5) (-2147483648)]) : MemJ val :=
  leaf h [(.c 0), (.c 0), (.c 0), (.c 0), (.c 0), (.c 0), (.c 0), (.c 2)] rfl (by kernel_rfl)

theorem memJ104 (val : Nat → Int) (h : Holds val [.ne (.a 3) 4, .is (.a 4) 4, .ne (.a 4) 2, .ne (.a 4) 1, .le (.a 3) 15, .ge (.a 3) 0, .is (.a 2) 5, .ne (.a 2) 0, .is (.a 1) 0, .is (.a 0) 0, .is (.a 6) 2, .ne (.a 6) 1, .ne (.a 6) 0, .le (.a 5) 2147483647, .ge (.a 5) (-2147483648)]) : MemJ val :=
  leaf h [(.a 0), (.a 1), (.a 2), (.a 3), (.a 4), (.a 5), (.a 6), (.c 0)] rfl (by kernel_rfl)

theorem memJ105 (val : Nat → Int) (h : Holds val [.is (.a 3) 4, .is (.a 4) 8, .ne (.a 4) 4, .ne (.a 4) 2, .ne (.a 4) 1, .le (.a 3) 15, .ge (.a 3) 0, .is (.a 2) 5, .ne (.a 2) 0, .is (.a 1) 0, .is (.a 0) 0, .is (.a 6) 2, .ne (.a 6) 1, .ne (.a 6) 0, .le (.a 5) 2147483647, .ge (.a 5) (-2147483648)]) : MemJ val :=
  leaf h [(.c 0), (.c 0), (.c 0), (.c 0), (.c 0), (.c 0), (.c 0), (.c 2)] rfl (by kernel_rfl)

theorem memJ106 (val : Nat → Int) (h : Holds val [.ne (.a 3) 4, .is (.a 4) 8, .ne (.a 4) 4, .ne (.a 4) 2, .ne (.a 4) 1, .le (.a 3) 15, .ge (.a 3) 0, .is (.a 2) 5, .ne (.a 2) 0, .is (.a 1) 0, .is (.a 0) 0, .is (.a 6) 2, .ne (.a 6) 1, .ne (.a 6) 0, .le (.a 5) 2147483647, .ge (.a 5) (-2147483648)]) : MemJ val :=
  leaf h [(.a 0), (.a 1), (.a 2), (.a 3), (.a 4), (.a 5), (.a 6), (.c 0)] rfl (by kernel_rfl)

theorem memJ107 (val : Nat → Int) (h : Holds val [.ne (.a 4) 8, .ne (.a 4) 4, .ne (.a 4) 2, .ne (.a 4) 1, .le (.a 3) 15, .ge (.a 3) 0, .is (.a 2) 5, .ne (.a 2) 0, .is (.a 1) 0, .is (.a 0) 0, .is (.a 6) 2, .ne (.a 6) 1, .ne (.a 6) 0, .le (.a 5) 2147483647, .ge (.a 5) (-2147483648)]) : MemJ val :=
  leaf h [(.c 0), (.c 0), (.c 0), (.c 0), (.c 0), (.c 0), (.c 0), (.c 2)] rfl (by kernel_rfl)

theorem memJ108 (val : Nat → Int) (h : Holds val [.ge (.a 3) 16, .ge (.a 3) 0, .is (.a 2) 5, .ne (.a 2) 0, .is (.a 1) 0, .is (.a 0) 0, .is (.a 6) 2, .ne (.a 6) 1, .ne (.a 6) 0, .le (.a 5) 2147483647, .ge (.a 5) (-2147483648)]) : MemJ val :=
  leaf h [(.c 0), (.c 0), (.c 0), (.c 0), (.c 0), (.c 0), (.c 0), (.c 2)] rfl (by kernel_rfl)

theorem memJ109 (val : Nat → Int) (h : Holds val [.le (.a 3) (-1), .is (.a 2) 5, .ne (.a 2) 0, .is (.a 1) 0, .is (.a 0) 0, .is (.a 6) 2, .ne (.a 6) 1, .ne (.a 6) 0, .le (.a 5) 2147483647, .ge (.a 5) (-2147483648)]) : MemJ val :=
  leaf h [(.c 0), (.c 0), (.c 0), (.c 0), (.c 0), (.c 0), (.c 0), (.c 2)] rfl (by kernel_rfl)

theorem memJ110 (val : Nat → Int) (h : Holds val [.ne (.a 2) 5, .ne (.a 2) 0, .is (.a 1) 0, .is (.a 0) 0, .is (.a 6) 2, .ne (.a 6) 1, .ne (.a 6) 0, .le (.a 5) 2147483647, .ge (.a 5) (-2147483648)]) : MemJ val :=
  leaf h [(.c 0), (.c 0), (.c 0), (.c 0), (.c 0), (.c 0), (.c 0), (.c 2)] rfl (by kernel_rfl)

end Go.Proofs.Ytlegmdfceifkcaa.Tab
