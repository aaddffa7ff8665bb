/-
  Ways through the code, part 1.
-/
import Derived.Test.YtlegmdfceifkcaaMemJH
namespace Go.Proofs.Ytlegmdfceifkcaa.Tab
open Go.Sim
set_option maxRecDepth 100000

theorem memJ111 (val : Nat → Int) (h : Holds val [.ne (.a 1) 0, .is (.a 0) 0, .is (.a 6) 2, .ne (.a 6) 1, .ne (.a 6) 0, .le (.a 5) 2147483647, .ge (.a 5) (-2147483648)]) : MemJ val :=
  leaf h [(.c 0), (.c 0), (.c 0), (.c 0), (.c 0), (.c 0), (.c 0), (.c 2)] rfl (by kernel_rfl)

theorem memJ112 (val : Nat → Int) (h : Holds val [.is (.a 4) 0, .is (.a 3) 0, .is (.a 2) 0, .is (.a 1) 0, .is (.a 0) 8, .ne (.a 0) 0, .is (.a 6) 2, .ne (.a 6) 1, .ne (.a 6) 0, .le (.a 5) 2147483647, .ge (.a 5) (-2147483648)]) : MemJ val :=
  leaf h [(.a 0), (.a 1), (.a 2), (.a 3), (.a 4), (.a 5), (.a 6), (.c 0)] rfl (by kernel_rfl)

theorem memJ113 (val : Nat → Int) (h : Holds val [.ne (.a 4) 0, .is (.a 3) 0, .is (.a 2) 0, .is (.a 1) 0, .is (.a 0) 8, .ne (.a 0) 0, .is (.a 6) 2, .ne (.a 6) 1, .ne (.a 6) 0, .le (.a 5) 2147483647, .ge (.a 5) (-2147483648)]) : MemJ val :=
  leaf h [(.c 0), (.c 0), (.c 0), (.c 0), (.c 0), (.c 0), (.c 0), (.c 2)] rfl (by kernel_rfl)

theorem memJ114 (val : Nat → Int) (h : Holds val [.ne (.a 3) 0, .is (.a 2) 0, .is (.a 1) 0, .is (.a 0) 8, .ne (.a 0) 0, .is (.a 6) 2, .ne (.a 6) 1, .ne (.a 6) 0, .le (.a 5) 2147483647, .ge (.a 5) (-2147483648)]) : MemJ val :=
  leaf h [(.c 0), (.c 0), (.c 0), (.c 0), (.c 0), (.c 0), (.c 0), (.c 2)] rfl (by kernel_rfl)

theorem memJ115 (val : Nat → Int) (h : Holds val [.is (.a 4) 1, .le (.a 3) 15, .ge (.a 3) 0, .is (.a 2) 5, .ne (.a 2) 0, .is (.a 1) 0, .is (.a 0) 8, .ne (.a 0) 0, .is (.a 6) 2, .ne (.a 6) 1, .ne (.a 6) 0, .le (.a 5) 2147483647, .ge (.a 5) (-2147483648)]) : MemJ val :=
  leaf h [(.c 0), (.c 0), (.c 0), (.c 0), (.c 0), (.c 0), (.c 0), (.c 2)] rfl (by kernel_rfl)

theorem memJ116 (val : Nat → Int) (h : Holds val [.is (.a 4) 2, .ne (.a 4) 1, .le (.a 3) 15, .ge (.a 3) 0, .is (.a 2) 5, .ne (.a 2) 0, .is (.a 1) 0, .is (.a 0) 8, .ne (.a 0) 0, .is (.a 6) 2, .ne (.a 6) 1, .ne (.a 6) 0, .le (.a 5) 2147483647, .ge (.a 5) (-2147483648)]) : MemJ val :=
  leaf h [(.c 0), (.c 0), (.c 0), (.c 0), (.c 0), (.c 0), (.c 0), (.c 2)] rfl (by kernel_rfl)

theorem memJ117 (val : Nat → Int) (h : Holds val [.is (.a 4) 4, .ne (.a 4) 2, .ne (.a 4) 1, .le (.a 3) 15, .ge (.a 3) 0, .is (.a 2) 5, .ne (.a 2) 0, .is (.a 1) 0, .is (.a 0) 8, .ne (.a 0) 0, .is (.a 6) 2, .ne (.a 6) 1, .ne (.a 6) 0, .le (.a 5) 2147483647, .ge (.a 5) (-2147483648)]) : MemJ val :=
  leaf h [(.c 0), (.c 0), (.c 0), (.c 0), (.c 0), (.c 0), (.c 0), (.c 2)] rfl (by kernel_rfl)

theorem memJ118 (val : Nat → Int) (h : Holds val [.is (.a 4) 8, .ne (.a 4) 4, .ne (.a 4) 2, .ne (.a 4) 1, .le (.a 3) 15, .ge (.a 3) 0, .is (.a 2) 5, .ne (.a 2) 0, .is (.a 1) 0, .is (.a 0) 8, .ne (.a 0) 0, .is (.a 6) 2, .ne (.a 6) 1, .ne (.a 6) 0, .le (.a 5) 2147483647, .ge (.a 5) (-2147483648)]) : MemJ val :=
  leaf h [(.c 0), (.c 0), (.c 0), (.c 0), (.c 0), (.c 0), (.c 0), (.c 2)] rfl (by kernel_rfl)

theorem memJ119 (val : Nat → Int) (h : Holds val [.ne (.a 4) 8, .ne (.a 4) 4, .ne (.a 4) 2, .ne (.a 4) 1, .le (.a 3) 15, .ge (.a 3) 0, .is (.a 2) 5, .ne (.a 2) 0, .is (.a 1) 0, .is (.a 0) 8, .ne (.a 0) 0, .is (.a 6) 2, .ne (.a 6) 1, .ne (.a 6) 0, .le (.a 5) 2147483647, .ge (.a 5) (-2147483648)]) : MemJ val :=
  leaf h [(.c 0), (.c 0), (.c 0), (.c 0), (.c 0), (.c 0), (.c 0), (.c 2)] rfl (by kernel_rfl)

theorem memJ120 (val : Nat → Int) (h : Holds val [.ge (.a 3) 16, .ge (.a 3) 0, .is (.a 2) 5, .ne (.a 2) 0, .is (.a 1) 0, .is (.a 0) 8, .ne (.a 0) 0, .is (.a 6) 2, .ne (.a 6) 1, .ne (.a 6) 0, .le (.a 5) 2147483647, .ge (.a 5) (-2147483648)]) : MemJ val :=
  leaf h [(.c 0), (.c 0), (.c 0), (.c 0), (.c 0), (.c 0), (.c 0), (.c 2)] rfl (by kernel_rfl)

theorem memJ121 (val : Nat → Int) (h : Holds val [.le (.a 3) (-1), .is (.a 2) 5, .ne (.a 2) 0, .is (.a 1) 0, .is (.a 0) 8, .ne (.a 0) 0, .is (.a 6) 2, .ne (.a 6) 1, .ne (.a 6) 0, .le (.a 5) 2147483647, .ge (.a 5) (-2147483648)]) : MemJ val :=
  leaf h [(.c 0), (.c 0), (.c 0), (.c 0), (.c 0), (.c 0), (.c 0), (.c 2)] rfl (by kernel_rfl)

theorem memJ122 (val : Nat → Int) (h : Holds val [.ne (.a 2) 5, .ne (.a 2) 0, .is (.a 1) 0, .is (.a 0) 8, .ne (.a 0) 0, .is (.a 6) 2, .ne (.a 6) 1, .ne (.a 6) 0, .le (.a 5) 2147483647, .ge (.a 5) (-2147483648)]) : MemJ val :=
  leaf h [(.c 0), (.c 0), (.c 0), (.c 0), (.c 0), (.c 0), (.c 0), (.c 2)] rfl (by kernel_rfl)

theorem memJ123 (val : Nat → Int) (h : Holds val [.ne (.a 1) 0, .is (.a 0) 8, .ne (.a 0) 0, .is (.a 6) 2, .ne (.a 6) 1, .ne (.a 6) 0, .le (.a 5) 2147483647, .ge (.a 5) (-2147483648)]) : MemJ val :=
  leaf h [(.c 0), (.c 0), (.c 0), (.c 0), (.c 0), (.c 0), (.c 0), (.c 2)] rfl (by kernel_rfl)

theorem memJ124 (val : Nat → Int) (h : Holds val [.is (.a 4) 0, .is (.a 3) 0, .is (.a 2) 0, .le (.a 1) 15, .ge (.a 1) 0, .is (.a 0) 5, .ne (.a 0) 8, .ne (.a 0) 0, .is (.a 6) 2, .ne (.a 6) 1, .ne (.a 6) 0, .le (.a 5) 2147483647, .ge (.a 5) (-2147483648)]) : MemJ val :=
  leaf h [(.a 0), (.a 1), (.a 2), (.a 3), (.a 4), (.a 5), (.a 6), (.c 0)] rfl (by kernel_rfl)

theorem memJ125 (val : Nat → Int) (h : Holds val [.ne (.a 4) 0, .is (.a 3) 0, .is (.a 2) 0, .le (.a 1) 15, .ge (.a 1) 0, .is (.a 0) 5, .ne (.a 0) 8, .ne (.a 0) 0, .is (.a 6) 2, .ne (.a 6) 1, .ne (.a 6) 0, .le (.a 5) 2147483647, .ge (.a 5) (-2147483648)]) : MemJ val :=
  leaf h [(.c 0), (.c 0), (.c 0), (.c 0), (.c 0), (.c 0), (.c 0), (.c 2)] rfl (by kernel_rfl)

theorem memJ126 (val : Nat → Int) (h : Holds val [.ne (.a 3) 0, .is (.a 2) 0, .le (.a 1) 15, .ge (.a 1) 0, .is (.a 0) 5, .ne (.a 0) 8, .ne (.a 0) 0, .is (.a 6) 2, .ne (.a 6) 1, .ne (.a 6) 0, .le (.a 5) 2147483647, .ge (.a 5) (-2147483648)]) : MemJ val :=
  leaf h [(.c 0), (.c 0), (.c 0), (.c 0), (.c 0), (.c 0), (.c 0), (.c 2)] rfl (by kernel_rfl)

theorem memJ127 (val : Nat → Int) (h : Holds val [.is (.a 1) 4, .is (.a 3) 4, .is (.a 4) 1, .le (.a 3) 15, .ge (.a 3) 0, .is (.a 2) 5, .ne (.a 2) 0, .le (.a 1) 15, .ge (.a 1) 0, .is (.a 0) 5, .ne (.a 0) 8, .ne (.a 0) 0, .is (.a 6) 2, .ne (.a 6) 1, .ne (.a 6) 0, .le (.a 5) 2147483647, .ge (.a 5) (-2147483648)]) : MemJ val :=
  leaf h [(.c 0), (.c 0), (.c 0), (.c 0), (.c 0), (.c 0), (.c 0), (.c 2)] rfl (by kernel_rfl)

theorem memJ128 (val : Nat → Int) (h : Holds val [.ne (.a 1) 4, .is (.a 3) 4, .is (.a 4) 1, .le (.a 3) 15, .ge (.a 3) 0, .is (.a 2) 5, .ne (.a 2) 0, .le (.a 1) 15, .ge (.a 1) 0, .is (.a 0) 5, .ne (.a 0) 8, .ne (.a 0) 0, .is (.a 6) 2, .ne (.a 6) 1, .ne (.a 6) 0, .le (.a 5) 2147483647, .ge (.a 5) (-2147483648)]) : MemJ val :=
  leaf h [(.a 2), (.a 3), (.a 0), (.a 1), (.a 4), (.a 5), (.a 6), (.c 0)] rfl (by kernel_rfl)

theorem memJ129 (val : Nat → Int) (h : Holds val [.ne (.a 3) 4, .is (.a 4) 1, .le (.a 3) 15, .ge (.a 3) 0, .is (.a 2) 5, .ne (.a 2) 0, .le (.a 1) 15, .ge (.a 1) 0, .is (.a 0) 5, .ne (.a 0) 8, .ne (.a 0) 0, .is (.a 6) 2, .ne (.a 6) 1, .ne (.a 6) 0, .le (.a 5) 2147483647, .ge (.a 5) (-2147483648)]) : MemJ val :=
  leaf h [(.a 0), (.a 1), (.a 2), (.a 3), (.a 4), (.a 5), (.a 6), (.c 0)] rfl (by kernel_rfl)

theorem memJ130 (val : Nat → Int) (h : Holds val [.is (.a 3) 4, .is (.a 4) 2, .ne (.a 4) 1, .le (.a 3) 15, .ge (.a 3) 0, .is (.a 2) 5, .ne (.a 2) 0, .le (.a 1) 15, .ge (.a 1) 0, .is (.a 0) 5, .ne (.a 0) 8, .ne (.a 0) 0, .is (.a 6) 2, .ne (.a 6) 1, .ne (.a 6) 0, .le (.a 5) 2147483647, .ge (.a 5) (-2147483648)]) : MemJ val :=
  leaf h [(.c 0), (.c 0), (.c 0), (.c 0), (.c 0), (.c 0), (.c 0), (.c 2)] rfl (by kernel_rfl)

theorem memJ131 (val : Nat → Int) (h : Holds val [.ne (.a 3) 4, .is (.a 4) 2, .ne (.a 4) 1, .le (.a 3) 15, .ge (.a 3) 0, .is (.a 2) 5, .ne (.a 2) 0, .le (.a 1) 15, .ge (.a 1) 0, .is (.a 0) 5, .ne (.a 0) 8, .ne (.a 0) 0, .is (.a 6) 2, .ne (.a 6) 1, .ne (.a 6) 0, .le (.a 5) 2147483647, .ge (.a 5) (-2147483648)]) : MemJ val :=
  leaf h [(.a 0), (.a 1), (.a 2), (.a 3), (.a 4), (.a 5), (.a 6), (.c 0)] rfl (by kernel_rfl)

theorem memJ132 (val : Nat → Int) (h : Holds val [.is (.a 3) 4, .is (.a 4) 4, .ne (.a 4) 2, .ne (.a 4) 1, .le (.a 3) 15, .ge (.a 3) 0, .is (.a 2) 5, .ne (.a 2) 0, .le (.a 1) 15, .ge (.a 1) 0, .is (.a 0) 5, .ne (.a 0) 8, .ne (.a 0) 0, .is (.a 6) 2, .ne (.a 6) 1, .ne (.a 6) 0, .le (.a 5) 2147483647, .ge (.a 5) (-2147483648)]) : MemJ val :=
  leaf h [(.c 0), (.c 0), (.c 0), (.c 0), (.c 0), (.c 0), (.c 0), (.c 2)] rfl (by kernel_rfl)

theorem memJ133 (val : Nat → Int) (h : Holds val [.ne (.a 3) 4, .is (.a 4) 4, .ne (.a 4) 2, .ne (.a 4) 1, .le (.a 3) 15, .ge (.a 3) 0, .is (.a 2) 5, .ne (.a 2) 0, .le (.a 1) 15, .ge (.a 1) 0, .is (.a 0) 5, .ne (.a 0) 8, .ne (.a 0) 0, .is (.a 6) 2, .ne (.a 6) 1, .ne (.a 6) 0, .le (.a 5) 2147483647, .ge (.a 5) (-2147483648)]) : MemJ val :=
  leaf h [(.a 0), (.a 1), (.a 2), (.a 3), (.a 4), (.a 5), (.a 6), (.c 0)] rfl (by kernel_rfl)

theorem memJ134 (val : Nat → Int) (h : Holds val [.is (.a 3) 4, .is (.a 4) 8, .ne (.a 4) 4, .ne (.a 4) 2, .ne (.a 4) 1, .le (.a 3) 15, .ge (.a 3) 0, .is (.a 2) 5, .ne (.a 2) 0, .le (.a 1) 15, .ge (.a 1) 0, .is (.a 0) 5, .ne (.a 0) 8, .ne (.a 0) 0, .is (.a 6) 2, .ne (.a 6) 1, .ne (.a 6) 0, .le (.a 5) 2147483647, .ge (.a 5) (-2147483648)]) : MemJ val :=
  leaf h [(.c 0), (.c 0), (.c 0), (.c 0), (.c 0), (.c 0), (.c 0), (.c 2)] rfl (by kernel_rfl)

theorem memJ135 (val : Nat → Int) (h : Holds val [.ne (.a 3) 4, .is (.a 4) 8, .ne (.a 4) 4, .ne (.a 4) 2, .ne (.a 4) 1, .le (.a 3) 15, .ge (.a 3) 0, .is (.a 2) 5, .ne (.a 2) 0, .le (.a 1) 15, .ge (.a 1) 0, .is (.a 0) 5, .ne (.a 0) 8, .ne (.a 0) 0, .is (.a 6) 2, .ne (.a 6) 1, .ne (.a 6) 0, .le (.a 5) 2147483647, .ge (.a 5) (-2147483648)]) : MemJ val :=
  leaf h [(.a 0), (.a 1), (.a 2), (.a 3), (.a 4), (.a 5), (.a 6), (.c 0)] rfl (by kernel_rfl)

theorem memJ136 (val : Nat → Int) (h : Holds val [.ne (.a 4) 8, .ne (.a 4) 4, .ne (.a 4) 2, .ne (.a 4) 1, .le (.a 3) 15, .ge (.a 3) 0, .is (.a 2) 5, .ne (.a 2) 0, .le (.a 1) 15, .ge (.a 1) 0, .is (.a 0) 5, .ne (.a 0) 8, .ne (.a 0) 0, .is (.a 6) 2, .ne (.a 6) 1, .ne (.a 6) 0, .le (.a 5) 2147483647, .ge (.a 5) (-2147483648)]) : MemJ val :=
  leaf h [(.c 0), (.c 0), (.c 0), (.c 0), (.c 0), (.c 0), (.c 0), (.c 2)] rfl (by kernel_rfl)

theorem memJ137 (val : Nat → Int) (h : Holds val [.ge (.a 3) 16, .ge (.a 3) 0, .is (.a 2) 5, .ne (.a 2) 0, .le (.a 1) 15, .ge (.a 1) 0, .is (.a 0) 5, .ne (.a 0) 8, .ne (.a 0) 0, .is (.a 6) 2, .ne (.a 6) 1, .ne (.a 6) 0, .le (.a 5) 2147483647, .ge (.a 5) (-2147483648)]) : MemJ val :=
  leaf h [(.c 0), (.c 0), (.c 0), (.c 0), (.c 0), (.c 0), (.c 0), (.c 2)] rfl (by kernel_rfl)

theorem memJ138 (val : Nat → Int) (h : Holds val [.le (.a 3) (-1), .is (.a 2) 5, .ne (.a 2) 0, .le (.a 1) 15, .ge (.a 1) 0, .is (.a 0) 5, .ne (.a 0) 8, .ne (.a 0) 0, .is (.a 6) 2, .ne (.a 6) 1, .ne (.a 6) 0, .le (.a 5) 2147483647, .ge (.a 5) (-2147483648)]) : MemJ val :=
  leaf h [(.c 0), (.c 0), (.c 0), (.c 0), (.c 0), (.c 0), (.c 0), (.c 2)] rfl (by kernel_rfl)

theorem memJ139 (val : Nat → Int) (h : Holds val [.ne (.a 2) 5, .ne (.a 2) 0, .le (.a 1) 15, .ge (.a 1) 0, .is (.a 0) 5, .ne (.a 0) 8, .ne (.a 0) 0, .is (.a 6) 2, .ne (.a 6) 1, .ne (.a 6) 0, .le (.a 5) 2147483647, .ge (.a 5) (-2147483648)]) : MemJ val :=
  leaf h [(.c 0), (.c 0), (.c 0), (.c 0), (.c 0), (.c 0), (.c 0), (.c 2)] rfl (by kernel_rfl)

theorem memJ140 (val : Nat → Int) (h : Holds val [.ge (.a 1) 16, .ge (.a 1) 0, .is (.a 0) 5, .ne (.a 0) 8, .ne (.a 0) 0, .is (.a 6) 2, .ne (.a 6) 1, .ne (.a 6) 0, .le (.a 5) 2147483647, .ge (.a 5) (-2147483648)]) : MemJ val :=
  leaf h [(.c 0), (.c 0), (.c 0), (.c 0), (.c 0), (.c 0), (.c 0), (.c 2)] rfl (by kernel_rfl)

theorem memJ141 (val : Nat → Int) (h : Holds val [.le (.a 1) (-1), .is (.a 0) 5, .ne (.a 0) 8, .ne (.a 0) 0, .is (.a 6) 2, .ne (.a 6) 1, .ne (.a 6) 0, .le (.a 5) 2147483647, .ge (.a 5) (-2147483648)]) : MemJ val :=
  leaf h [(.c 0), (.c 0), (.c 0), (.c 0), (.c 0), (.c 0), (.c 0), (.c 2)] rfl (by kernel_rfl)

theorem memJ142 (val : Nat → Int) (h : Holds val [.ne (.a 0) 5, .ne (.a 0) 8, .ne (.a 0) 0, .is (.a 6) 2, .ne (.a 6) 1, .ne (.a 6) 0, .le (.a 5) 2147483647, .ge (.a 5) (-2147483648)]) : MemJ val :=
  leaf h [(.c 0), (.c 0), (.c 0), (.c 0), (.c 0), (.c 0), (.c 0), (.c 2)] rfl (by kernel_rfl)

theorem memJ143 (val : Nat → Int) (h : Holds val [.is (.a 4) 0, .is (.a 3) 0, .is (.a 2) 0, .is (.a 1) 0, .is (.a 0) 0, .is (.a 6) 4, .ne (.a 6) 2, .ne (.a 6) 1, .ne (.a 6) 0, .le (.a 5) 2147483647, .ge (.a 5) (-2147483648)]) : MemJ val :=
  leaf h [(.a 0), (.a 1), (.a 2), (.a 3), (.a 4), (.a 5), (.a 6), (.c 0)] rfl (by kernel_rfl)

theorem memJ144 (val : Nat → Int) (h : Holds val [.ne (.a 4) 0, .is (.a 3) 0, .is (.a 2) 0, .is (.a 1) 0, .is (.a 0) 0, .is (.a 6) 4, .ne (.a 6) 2, .ne (.a 6) 1, .ne (.a 6) 0, .le (.a 5) 2147483647, .ge (.a 5) (-2147483648)]) : MemJ val :=
  leaf h [(.c 0), (.c 0), (.c 0), (.c 0), (.c 0), (.c 0), (.c 0), (.c 2)] rfl (by kernel_rfl)

theorem memJ145 (val : Nat → Int) (h : Holds val [.ne (.a 3) 0, .is (.a 2) 0, .is (.a 1) 0, .is (.a 0) 0, .is (.a 6) 4, .ne (.a 6) 2, .ne (.a 6) 1, .ne (.a 6) 0, .le (.a 5) 2147483647, .ge (.a 5) (-2147483648)]) : MemJ val :=
  leaf h [(.c 0), (.c 0), (.c 0), (.c 0), (.c 0), (.c 0), (.c 0), (.c 2)] rfl (by kernel_rfl)

theorem memJ146 (val : Nat → Int) (h : Holds val [.is (.a 3) 4, .is (.a 4) 1, .le (.a 3) 15, .ge (.a 3) 0, .is (.a 2) 5, .ne (.a 2) 0, .is (.a 1) 0, .is (.a 0) 0, .is (.a 6) 4, .ne (.a 6) 2, .ne (.a 6) 1, .ne (.a 6) 0, .le (.a 5) 2147483647, .ge (.a 5) (-2147483648)]) : MemJ val :=
  leaf h [(.a 2), (.a 3), (.c 0), (.c 0), (.c 0), (.a 5), (.a 6), (.c 0)] rfl (by kernel_rfl)

theorem memJ147 (val : Nat → Int) (h : Holds val [.ne (.a 3) 4, .is (.a 4) 1, .le (.a 3) 15, .ge (.a 3) 0, .is (.a 2) 5, .ne (.a 2) 0, .is (.a 1) 0, .is (.a 0) 0, .is (.a 6) 4, .ne (.a 6) 2, .ne (.a 6) 1, .ne (.a 6) 0, .le (.a 5) 2147483647, .ge (.a 5) (-2147483648)]) : MemJ val :=
  leaf h [(.a 2), (.a 3), (.c 0), (.c 0), (.c 0), (.a 5), (.a 6), (.c 0)] rfl (by kernel_rfl)

theorem memJ148 (val : Nat → Int) (h : Holds val [.is (.a 3) 4, .is (.a 4) 2, .ne (.a 4) 1, .le (.a 3) 15, .ge (.a 3) 0, .is (.a 2) 5, .ne (.a 2) 0, .is (.a 1) 0, .is (.a 0) 0, .is (.a 6) 4, .ne (.a 6) 2, .ne (.a 6) 1, .ne (.a 6) 0, .le (.a 5) 2147483647, .ge (.a 5) (-2147483648)]) : MemJ val :=
  leaf h [(.c 0), (.c 0), (.c 0), (.c 0), (.c 0), (.c 0), (.c 0), (.c 2)] rfl (by kernel_rfl)

theorem memJ149 (val : Nat → Int) (h : Holds val [.ne (.a 3) 4, .is (.a 4) 2, .ne (.a 4) 1, .le (.a 3) 15, .ge (.a 3) 0, .is (.a 2) 5, .ne (.a 2) 0, .is (.a 1) 0, .is (.a 0) 0, .is (.a 6) 4, .ne (.a 6) 2, .ne (.a 6) 1, .ne (.a 6) 0, .le (.a 5) 2147483647, .ge (.a 5) (-2147483648)]) : MemJ val :=
  leaf h [(.a 0), (.a 1), (.a 2), (.a 3), (.a 4), (.a 5), (.a 6), (.c 0)] rfl (by kernel_rfl)

theorem memJ150 (val : Nat → Int) (h : Holds val [.is (.a 3) 4, .is (.a 4) 4, .ne (.a 4) 2, .ne (.a 4) 1, .le (.a 3) 15, .ge (.a 3) 0, .is (.a 2) 5, .ne (.a 2) 0, .is (.a 1) 0, .is (.a 0) 0, .is (.a 6) 4, .ne (.a 6) 2, .ne (.a 6) 1, .ne (.a 6) 0, .le (.a 5) 2147483647, .ge (.a 5) (-2147483648)]) : MemJ val :=
  leaf h [(.c 0), (.c 0), (.c 0), (.c 0), (.c 0), (.c 0), (.c 0), (.c 2)] rfl (by kernel_rfl)

theorem memJ151 (val : Nat → Int) (h : Holds val [.ne (.a 3) 4, .is (.a 4) 4, .ne (.a 4) 2, .ne (.a 4) 1, .le (.a 3) 15, .ge (.a 3) 0, .is (.a 2) 5, .ne (.a 2) 0, .is (.a 1) 0, .is (.a 0) 0, .is (.a 6) 4, .ne (.a 6) 2, .ne (.a 6) 1, .ne (.a 6) 0, .le (.a 5) 2147483647, .ge (.a 5) (-2147483648)]) : MemJ val :=
  leaf h [(.a 0), (.a 1), (.a 2), (.a 3), (.a 4), (.a 5), (.a 6), (.c 0)] rfl (by kernel_rfl)

theorem memJ152 (val : Nat → Int) (h : Holds val [.is (.a 3) 4, .is (.a 4) 8, .ne (.a 4) 4, .ne (.a 4) 2, .ne (.a 4) 1, .le (.a 3) 15, .ge (.a 3) 0, .is (.a 2) 5, .ne (.a 2) 0, .is (.a 1) 0, .is (.a 0) 0, .is (.a 6) 4, .ne (.a 6) 2, .ne (.a 6) 1, .ne (.a 6) 0, .le (.a 5) 2147483647, .ge (.a 5) (-2147483648)]) : MemJ val :=
  leaf h [(.c 0), (.c 0), (.c 0), (.c 0), (.c 0), (.c 0), (.c 0), (.c 2)] rfl (by kernel_rfl)

theorem memJ153 (val : Nat → Int) (h : Holds val [.ne (.a 3) 4, .is (.a 4) 8, .ne (.a 4) 4, .ne (.a 4) 2, .ne (.a 4) 1, .le (.a 3) 15, .ge (.a 3) 0, .is (.a 2) 5, .ne (.a 2) 0, .is (.a 1) 0, .is (.a 0) 0, .is (.a 6) 4, .ne (.a 6) 2, .ne (.a 6) 1, .ne (.a 6) 0, .le (.a 5) 2147483647, .ge (.a 5) (-2147483648)]) : MemJ val :=
  leaf h [(.a 0), (.a 1), (.a 2), (.a 3), (.a 4), (.a 5), (.a 6), (.c 0)] rfl (by kernel_rfl)

theorem memJ154 (val : Nat → Int) (h : Holds val [.ne (.a 4) 8, .ne (.a 4) 4, .ne (.a 4) 2, .ne (.a 4) 1, .le (.a 3) 15, .ge (.a 3) 0, .is (.a 2) 5, .ne (.a 2) 0, .is (.a 1) 0, .is (.a 0) 0, .is (.a 6) 4, .ne (.a 6) 2, .ne (.a 6) 1, .ne (.a 6) 0, .le (.a 5) 2147483647, .ge (.a 5) (-2147483648)]) : MemJ val :=
  leaf h [(.c 0), (.c 0), (.c 0), (.c 0), (.c 0), (.c 0), (.c 0), (.c 2)] rfl (by kernel_rfl)

theorem memJ155 (val : Nat → Int) (h : Holds val [.ge (.a 3) 16, .ge (.a 3) 0, .is (.a 2) 5, .ne (.a 2) 0, .is (.a 1) 0, .is (.a 0) 0, .is (.a 6) 4, .ne (.a 6) 2, .ne (.a 6) 1, .ne (.a 6) 0, .le (.a 5) 2147483647, .ge (.a 5) (-2147483648)]) : MemJ val :=
  leaf h [(.c 0), (.c 0), (.c 0), (.c 0), (.c 0), (.c 0), (.c 0), (.c 2)] rfl (by kernel_rfl)

theorem memJ156 (val : Nat → Int) (h : Holds val [.le (.a 3) (-1), .is (.a 2) 5, .ne (.a 2) 0, .is (.a 1) 0, .is (.a 0) 0, .is (.a 6) 4, .ne (.a 6) 2, .ne (.a 6) 1, .ne (.a 6) 0, .le (.a 5) 2147483647, .ge (.a 5) (-2147483648)]) : MemJ val :=
  leaf h [(.c 0), (.c 0), (.c 0), (.c 0), (.c 0), (.c 0), (.c 0), (.c 2)] rfl (by kernel_rfl)

theorem memJ157 (val : Nat → Int) (h : Holds val [.ne (.a 2) 5, .ne (.a 2) 0, .is (.a 1) 0, .is (.a 0) 0, .is (.a 6) 4, .ne (.a 6) 2, .ne (.a 6) 1, .ne (.a 6) 0, .le (.a 5) 2147483647, .ge (.a 5) (-2147483648)]) : MemJ val :=
  leaf h [(.c 0), (.c 0), (.c 0), (.c 0), (.c 0), (.c 0), (.c 0), (.c 2)] rfl (by kernel_rfl)

theorem memJ158 (val : Nat → Int) (h : Holds val [.ne (.a 1) 0, .is (.a 0) 0, .is (.a 6) 4, .ne (.a 6) 2, .ne (.a 6) 1, .ne (.a 6) 0, .le (.a 5) 2147483647, .ge (.a 5) (-2147483648)]) : MemJ val :=
  leaf h [(.c 0), (.c 0), (.c 0), (.c 0), (.c 0), (.c 0), (.c 0), (.c 2)] rfl (by kernel_rfl)

theorem memJ159 (val : Nat → Int) (h : Holds val [.is (.a 4) 0, .is (.a 3) 0, .is (.a 2) 0, .is (.a 1) 0, .is (.a 0) 8, .ne (.a 0) 0, .is (.a 6) 4, .ne (.a 6) 2, .ne (.a 6) 1, .ne (.a 6) 0, .le (.a 5) 2147483647, .ge (.a 5) (-2147483648)]) : MemJ val :=
  leaf h [(.a 0), (.a 1), (.a 2), (.a 3), (.a 4), (.a 5), (.a 6), (.c 0)] rfl (by kernel_rfl)

theorem memJ160 (val : Nat → Int) (h : Holds val [.ne (.a 4) 0, .is (.a 3) 0, .is (.a 2) 0, .is (.a 1) 0, .is (.a 0) 8, .ne (.a 0) 0, .is (.a 6) 4, .ne (.a 6) 2, .ne (.a 6) 1, .ne (.a 6) 0, .le (.a 5) 2147483647, .ge (.a 5) (-2147483648)]) : MemJ val :=
  leaf h [(.c 0), (.c 0), (.c 0), (.c 0), (.c 0), (.c 0), (.c 0), (.c 2)] rfl (by kernel_rfl)

theorem memJ161 (val : Nat → Int) (h : Holds val [.ne (.a 3) 0, .is (.a 2) 0, .is (.a 1) 0, .is (.a 0) 8, .ne (.a 0) 0, .is (.a 6) 4, .ne (.a 6) 2, .ne (.a 6) 1, .ne (.a 6) 0, .le (.a 5) 2147483647, .ge (.a 5) (-2147483648)]) : MemJ val :=
  leaf h [(.c 0), (.c 0), (.c 0), (.c 0), (.c 0), (.c 0), (.c 0), (.c 2)] rfl (by kernel_rfl)

theorem memJ162 (val : Nat → Int) (h : Holds val [.is (.a 4) 1, .le (.a 3) 15, .ge (.a 3) 0, .is (.a 2) 5, .ne (.a 2) 0, .is (.a 1) 0, .is (.a 0) 8, .ne (.a 0) 0, .is (.a 6) 4, .ne (.a 6) 2, .ne (.a 6) 1, .ne (.a 6) 0, .le (.a 5) 2147483647, .ge (.a 5) (-2147483648)]) : MemJ val :=
  leaf h [(.c 0), (.c 0), (.c 0), (.c 0), (.c 0), (.c 0), (.c 0), (.c 2)] rfl (by kernel_rfl)

theorem memJ163 (val : Nat → Int) (h : Holds val [.is (.a 4) 2, .ne (.a 4) 1, .le (.a 3) 15, .ge (.a 3) 0, .is (.a 2) 5, .ne (.a 2) 0, .is (.a 1) 0, .is (.a 0) 8, .ne (.a 0) 0, .is (.a 6) 4, .ne (.a 6) 2, .ne (.a 6) 1, .ne (.a 6) 0, .le (.a 5) 2147483647, .ge (.a 5) (-2147483648)]) : MemJ val :=
  leaf h [(.c 0), (.c 0), (.c 0), (.c 0), (.c 0), (.c 0), (.c 0), (.c 2)] rfl (by kernel_rfl)

theorem memJ164 (val : Nat → Int) (h : Holds val [.is (.a 4) 4, .ne (.a 4) 2, .ne (.a 4) 1, .le (.a 3) 15, .ge (.a 3) 0, .is (.a 2) 5, .ne (.a 2) 0, .is (.a 1) 0, .is (.a 0) 8, .ne (.a 0) 0, .is (.a 6) 4, .ne (.a 6) 2, .ne (.a 6) 1, .ne (.a 6) 0, .le (.a 5) 2147483647, .ge (.a 5) (-2147483648)]) : MemJ val :=
  leaf h [(.c 0), (.c 0), (.c 0), (.c 0), (.c 0), (.c 0), (.c 0), (.c 2)] rfl (by kernel_rfl)

theorem memJ165 (val : Nat → Int) (h : Holds val [.is (.a 4) 8, .ne (.a 4) 4, .ne (.a 4) 2, .ne (.a 4) 1, .le (.a 3) 15, .ge (.a 3) 0, .is (.a 2) 5, .ne (.a 2) 0, .is (.a 1) 0, .is (.a 0) 8, .ne (.a 0) 0, .is (.a 6) 4, .ne (.a 6) 2, .ne (.a 6) 1, .ne (.a 6) 0, .le (.a 5) 2147483647, .ge (.a 5) (-2147483648)]) : MemJ val :=
  leaf h [(.c 0), (.c 0), (.c 0), (.c 0), (.c 0), (.c 0), (.c 0), (.c 2)] rfl (by kernel_rfl)

theorem memJ166 (val : Nat → Int) (h : Holds val [.ne (.a 4) 8, .ne (.a 4) 4, .ne (.a 4) 2, .ne (.a 4) 1, .le (.a 3) 15, .ge (.a 3) 0, .is (.a 2) 5, .ne (.a 2) 0, .is (.a 1) 0, .is (.a 0) 8, .ne (.a 0) 0, .is (.a 6) 4, .ne (.a 6) 2, .ne (.a 6) 1, .ne (.a 6) 0, .le (.a 5) 2147483647, .ge (.a 5) (-2147483648)]) : MemJ val :=
  leaf h [(.c 0), (.c 0), (.c 0), (.c 0), (.c 0), (.c 0), (.c 0), (.c 2)] rfl (by kernel_rfl)

theorem memJ167 (val : Nat → Int) (h : Holds val [.ge (.a 3) 16, .ge (.a 3) 0, .is (.a 2) 5, .ne (.a 2) 0, .is (.a 1) 0, .is (.a 0) 8, .ne (.a 0) 0, .is (.a 6) 4, .ne (.a 6) 2, .ne (.a 6) 1, .ne (.a 6) 0, .le (.a 5) 2147483647, .ge (.a 5) (-2147483648)]) : MemJ val :=
  leaf h [(.c 0), (.c 0), (.c 0), (.c 0), (.c 0), (.c 0), (.c 0), (.c 2)] rfl (by kernel_rfl)

theorem memJ168 (val : Nat → Int) (h : Holds val [.le (.a 3) (-1), .is (.a 2) 5, .ne (.a 2) 0, .is (.a 1) 0, .is (.a 0) 8, .ne (.a 0) 0, .is (.a 6) 4, .ne (.a 6) 2, .ne (.a 6) 1, .ne (.a 6) 0, .le (.a 5) 2147483647, .ge (.a 5) (-2147483648)]) : MemJ val :=
  leaf h [(.c 0), (.c 0), (.c 0), (.c 0), (.c 0), (.c 0), (.c 0), (.c 2)] rfl (by kernel_rfl)

theorem memJ169 (val : Nat → Int) (h : Holds val [.ne (.a 2) 5, .ne (.a 2) 0, .is (.a 1) 0, .is (.a 0) 8, .ne (.a 0) 0, .is (.a 6) 4, .ne (.a 6) 2, .ne (.a 6) 1, .ne (.a 6) 0, .le (.a 5) 2147483647, .ge (.a 5) (-2147483648)]) : MemJ val :=
  leaf h [(.c 0), (.c 0), (.c 0), (.c 0), (.c 0), (.c 0), (.c 0), (.c 2)] rfl (by kernel_rfl)

theorem memJ170 (val : Nat → Int) (h : Holds val [.ne (.a 1) 0, .is (.a 0) 8, .ne (.a 0) 0, .is (.a 6) 4, .ne (.a 6) 2, .ne (.a 6) 1, .ne (.a 6) 0, .le (.a 5) 2147483647, .ge (.a 5) (-2147483648)]) : MemJ val :=
  leaf h [(.c 0), (.c 0), (.c 0), (.c 0), (.c 0), (.c 0), (.c 0), (.c 2)] rfl (by kernel_rfl)

theorem memJ171 (val : Nat → Int) (h : Holds val [.is (.a 4) 0, .is (.a 3) 0, .is (.a 2) 0, .le (.a 1) 15, .ge (.a 1) 0, .is (.a 0) 5, .ne (.a 0) 8, .ne (.a 0) 0, .is (.a 6) 4, .ne (.a 6) 2, .ne (.a 6) 1, .ne (.a 6) 0, .le (.a 5) 2147483647, .ge (.a 5) (-2147483648)]) : MemJ val :=
  leaf h [(.a 0), (.a 1), (.a 2), (.a 3), (.a 4), (.a 5), (.a 6), (.c 0)] rfl (by kernel_rfl)

theorem memJ172 (val : Nat → Int) (h : Holds val [.ne (.a 4) 0, .is (.a 3) 0, .is (.a 2) 0, .le (.a 1) 15, .ge (.a 1) 0, .is (.a 0) 5, .ne (.a 0) 8, .ne (.a 0) 0, .is (.a 6) 4, .ne (.a 6) 2, .ne (.a 6) 1, .ne (.a 6) 0, .le (.a 5) 2147483647, .ge (.a 5) (-2147483648)]) : MemJ val :=
  leaf h [(.c 0), (.c 0), (.c 0), (.c 0), (.c 0), (.c 0), (.c 0), (.c 2)] rfl (by kernel_rfl)

theorem memJ173 (val : Nat → Int) (h : Holds val [.ne (.a 3) 0, .is (.a 2) 0, .le (.a 1) 15, .ge (.a 1) 0, .is (.a 0) 5, .ne (.a 0) 8, .ne (.a 0) 0, .is (.a 6) 4, .ne (.a 6) 2, .ne (.a 6) 1, .ne (.a 6) 0, .le (.a 5) 2147483647, .ge (.a 5) (-2147483648)]) : MemJ val :=
  leaf h [(.c 0), (.c 0), (.c 0), (.c 0), (.c 0), (.c 0), (.c 0), (.c 2)] rfl (by kernel_rfl)

theorem memJ174 (val : Nat → Int) (h : Holds val [.is (.a 1) 4, .is (.a 3) 4, .is (.a 4) 1, .le (.a 3) 15, .ge (.a 3) 0, .is (.a 2) 5, .ne (.a 2) 0, .le (.a 1) 15, .ge (.a 1) 0, .is (.a 0) 5, .ne (.a 0) 8, .ne (.a 0) 0, .is (.a 6) 4, .ne (.a 6) 2, .ne (.a 6) 1, .ne (.a 6) 0, .le (.a 5) 2147483647, .ge (.a 5) (-2147483648)]) : MemJ val :=
  leaf h [(.c 0), (.c 0), (.c 0), (.c 0), (.c 0), (.c 0), (.c 0), (.c 2)] rfl (by kernel_rfl)

theorem memJ175 (val : Nat → Int) (h : Holds val [.ne (.a 1) 4, .is (.a 3) 4, .is (.a 4) 1, .le (.a 3) 15, .ge (.a 3) 0, .is (.a 2) 5, .ne (.a 2) 0, .le (.a 1) 15, .ge (.a 1) 0, .is (.a 0) 5, .ne (.a 0) 8, .ne (.a 0) 0, .is (.a 6) 4, .ne (.a 6) 2, .ne (.a 6) 1, .ne (.a 6) 0, .le (.a 5) 2147483647, .ge (.a 5) (-2147483648)]) : MemJ val :=
  leaf h [(.a 2), (.a 3), (.a 0), (.a 1), (.a 4), (.a 5), (.a 6), (.c 0)] rfl (by kernel_rfl)

theorem memJ176 (val : Nat → Int) (h : Holds val [.ne (.a 3) 4, .is (.a 4) 1, .le (.a 3) 15, .ge (.a 3) 0, .is (.a 2) 5, .ne (.a 2) 0, .le (.a 1) 15, .ge (.a 1) 0, .is (.a 0) 5, .ne (.a 0) 8, .ne (.a 0) 0, .is (.a 6) 4, .ne (.a 6) 2, .ne (.a 6) 1, .ne (.a 6) 0, .le (.a 5) 2147483647, .ge (.a 5) (-2147483648)]) : MemJ val :=
  leaf h [(.a 0), (.a 1), (.a 2), (.a 3), (.a 4), (.a 5), (.a 6), (.c 0)] rfl (by kernel_rfl)

theorem memJ177 (val : Nat → Int) (h : Holds val [.is (.a 3) 4, .is (.a 4) 2, .ne (.a 4) 1, .le (.a 3) 15, .ge (.a 3) 0, .is (.a 2) 5, .ne (.a 2) 0, .le (.a 1) 15, .ge (.a 1) 0, .is (.a 0) 5, .ne (.a 0) 8, .ne (.a 0) 0, .is (.a 6) 4, .ne (.a 6) 2, .ne (.a 6) 1, .ne (.a 6) 0, .le (.a 5) 2147483647, .ge (.a 5) (-2147483648)]) : MemJ val :=
  leaf h [(.c 0), (.c 0), (.c 0), (.c 0), (.c 0), (.c 0), (.c 0), (.c 2)] rfl (by kernel_rfl)

theorem memJ178 (val : Nat → Int) (h : Holds val [.ne (.a 3) 4, .is (.a 4) 2, .ne (.a 4) 1, .le (.a 3) 15, .ge (.a 3) 0, .is (.a 2) 5, .ne (.a 2) 0, .le (.a 1) 15, .ge (.a 1) 0, .is (.a 0) 5, .ne (.a 0) 8, .ne (.a 0) 0, .is (.a 6) 4, .ne (.a 6) 2, .ne (.a 6) 1, .ne (.a 6) 0, .le (.a 5) 2147483647, .ge (.a 5) (-2147483648)]) : MemJ val :=
  leaf h [(.a 0), (.a 1), (.a 2), (.a 3), (.a 4), (.a 5), (.a 6), (.c 0)] rfl (by kernel_rfl)

theorem memJ179 (val : Nat → Int) (h : Holds val [.is (.a 3) 4, .is (.a 4) 4, .ne (.a 4) 2, .ne (.a 4) 1, .le (.a 3) 15, .ge (.a 3) 0, .is (.a 2) 5, .ne (.a 2) 0, .le (.a 1) 15, .ge (.a 1) 0, .is (.a 0) 5, .ne (.a 0) 8, .ne (.a 0) 0, .is (.a 6) 4, .ne (.a 6) 2, .ne (.a 6) 1, .ne (.a 6) 0, .le (.a 5) 2147483647, .ge (.a 5) (-2147483648)]) : MemJ val :=
  leaf h [(.c 0), (.c 0), (.c 0), (.c 0), (.c 0), (.c 0), (.c 0), (.c 2)] rfl (by kernel_rfl)

theorem memJ180 (val : Nat → Int) (h : Holds val [.ne (.a 3) 4, .is (.a 4) 4, .ne (.a 4) 2, .ne (.a 4) 1, .le (.a 3) 15, .ge (.a 3) 0, .is (.a 2) 5, .ne (.a 2) 0, .le (.a 1) 15, .ge (.a 1) 0, .is (.a 0) 5, .ne (.a 0) 8, .ne (.a 0) 0, .is (.a 6) 4, .ne (.a 6) 2, .ne (.a 6) 1, .ne (.a 6) 0, .le (.a 5) 2147483647, .ge (.a 5) (-2147483648)]) : MemJ val :=
  leaf h [(.a 0), (.a 1), (.a 2), (.a 3), (.a 4), (.a 5), (.a 6), (.c 0)] rfl (by kernel_rfl)

theorem memJ181 (val : Nat → Int) (h : Holds val [.is (.a 3) 4, .is (.a 4) 8, .ne (.a 4) 4, .ne (.a 4) 2, .ne (.a 4) 1, .le (.a 3) 15, .ge (.a 3) 0, .is (.a 2) 5, .ne (.a 2) 0, .le (.a 1) 15, .ge (.a 1) 0, .is (.a 0) 5, .ne (.a 0) 8, .ne (.a 0) 0, .is (.a 6) 4, .ne (.a 6) 2, .ne (.a 6) 1, .ne (.a 6) 0, .le (.a 5) 2147483647, .ge (.a 5) (-2147483648)]) : MemJ val :=
  leaf h [(.c 0), (.c 0), (.c 0), (.c 0), (.c 0), (.c 0), (.c 0), (.c 2)] rfl (by kernel_rfl)

theorem memJ182 (val : Nat → Int) (h : Holds val [.ne (.a 3) 4, .is (.a 4) 8, .ne (.a 4) 4, .ne (.a 4) 2, .ne (.a 4) 1, .le (.a 3) 15, .ge (.a 3) 0, .is (.a 2) 5, .ne (.a 2) 0, .le (.a 1) 15, .ge (.a 1) 0, .is (.a 0) 5, .ne (.a 0) 8, .ne (.a 0) 0, .is (.a 6) 4, .ne (.a 6) 2, .ne (.a 6) 1, .ne (.a 6) 0, .le (.a 5) 2147483647, .ge (.a 5) (-2147483648)]) : MemJ val :=
  leaf h [(.a 0), (.a 1), (.a 2), (.a 3), (.a 4), (.a 5), (.a 6), (.c 0)] rfl (by kernel_rfl)

theorem memJ183 (val : Nat → Int) (h : Holds val [.ne (.a 4) 8, .ne (.a 4) 4, .ne (.a 4) 2, .ne (.a 4) 1, .le (.a 3) 15, .ge (.a 3) 0, .is (.a 2) 5, .ne (.a 2) 0, .le (.a 1) 15, .ge (.a 1) 0, .is (.a 0) 5, .ne (.a 0) 8, .ne (.a 0) 0, .is (.a 6) 4, .ne (.a 6) 2, .ne (.a 6) 1, .ne (.a 6) 0, .le (.a 5) 2147483647, .ge (.a 5) (-2147483648)]) : MemJ val :=
  leaf h [(.c 0), (.c 0), (.c 0), (.c 0), (.c 0), (.c 0), (.c 0), (.c 2)] rfl (by kernel_rfl)

theorem memJ184 (val : Nat → Int) (h : Holds val [.ge (.a 3) 16, .ge (.a 3) 0, .is (.a 2) 5, .ne (.a 2) 0, .le (.a 1) 15, .ge (.a 1) 0, .is (.a 0) 5, .ne (.a 0) 8, .ne (.a 0) 0, .is (.a 6) 4, .ne (.a 6) 2, .ne (.a 6) 1, .ne (.a 6) 0, .le (.a 5) 2147483647, .ge (.a 5) (-2147483648)]) : MemJ val :=
  leaf h [(.c 0), (.c 0), (.c 0), (.c 0), (.c 0), (.c 0), (.c 0), (.c 2)] rfl (by kernel_rfl)

theorem memJ185 (val : Nat → Int) (h : Holds val [.le (.a 3) (-1), .is (.a 2) 5, .ne (.a 2) 0, .le (.a 1) 15, .ge (.a 1) 0, .is (.a 0) 5, .ne (.a 0) 8, .ne (.a 0) 0, .is (.a 6) 4, .ne (.a 6) 2, .ne (.a 6) 1, .ne (.a 6) 0, .le (.a 5) 2147483647, .ge (.a 5) (-2147483648)]) : MemJ val :=
  leaf h [(.c 0), (.c 0), (.c 0), (.c 0), (.c 0), (.c 0), (.c 0), (.c 2)] rfl (by kernel_rfl)

theorem memJ186 (val : Nat → Int) (h : Holds val [.ne (.a 2) 5, .ne (.a 2) 0, .le (.a 1) 15, .ge (.a 1) 0, .is (.a 0) 5, .ne (.a 0) 8, .ne (.a 0) 0, .is (.a 6) 4, .ne (.a 6) 2, .ne (.a 6) 1, .ne (.a 6) 0, .le (.a 5) 2147483647, .ge (.a 5) (-2147483648)]) : MemJ val :=
  leaf h [(.c 0), (.c 0), (.c 0), (.c 0), (.c 0), (.c 0), (.c 0), (.c 2)] rfl (by kernel_rfl)

theorem memJ187 (val : Nat → Int) (h : Holds val [.ge (.a 1) 16, .ge (.a 1) 0, .is (.a 0) 5, .ne (.a 0) 8, .ne (.a 0) 0, .is (.a 6) 4, .ne (.a 6) 2, .ne (.a 6) 1, .ne (.a 6) 0, .le (.a 5) 2147483647, .ge (.a 5) (-2147483648)]) : MemJ val :=
  leaf h [(.c 0), (.c 0), (.c 0), (.c 0), (.c 0), (.c 0), (.c 0), (.c 2)] rfl (by kernel_rfl)

theorem memJ188 (val : Nat → Int) (h : Holds val [.le (.a 1) (-1), .is (.a 0) 5, .ne (.a 0) 8, .ne (.a 0) 0, .is (.a 6) 4, .ne (.a 6) 2, .ne (.a 6) 1, .ne (.a 6) 0, .le (.a 5) 2147483647, .ge (.a 5) (-2147483648)]) : MemJ val :=
  leaf h [(.c 0), (.c 0), (.c 0), (.c 0), (.c 0), (.c 0), (.c 0), (.c 2)] rfl (by kernel_rfl)

theorem memJ189 (val : Nat → Int) (h : Holds val [.ne (.a 0) 5, .ne (.a 0) 8, .ne (.a 0) 0, .is (.a 6) 4, .ne (.a 6) 2, .ne (.a 6) 1, .ne (.a 6) 0, .le (.a 5) 2147483647, .ge (.a 5) (-2147483648)]) : MemJ val :=
  leaf h [(.c 0), (.c 0), (.c 0), (.c 0), (.c 0), (.c 0), (.c 0), (.c 2)] rfl (by kernel_rfl)

theorem memJ190 (val : Nat → Int) (h : Holds val [.is (.a 4) 0, .is (.a 3) 0, .is (.a 2) 0, .is (.a 1) 0, .is (.a 0) 0, .is (.a 6) 8, .ne (.a 6) 4, .ne (.a 6) 2, .ne (.a 6) 1, .ne (.a 6) 0, .le (.a 5) 2147483647, .ge (.a 5) (-2147483648)]) : MemJ val :=
  leaf h [(.a 0), (.a 1), (.a 2), (.a 3), (.a 4), (.a 5), (.a 6), (.c 0)] rfl (by kernel_rfl)

theorem memJ191 (val : Nat → Int) (h : Holds val [.ne (.a 4) 0, .is (.a 3) 0, .is (.a 2) 0, .is (.a 1) 0, .is (.a 0) 0, .is (.a 6) 8, .ne (.a 6) 4, .ne (.a 6) 2, .ne (.a 6) 1, .ne (.a 6) 0, .le (.a 5) 2147483647, .ge (.a 5) (-2147483648)]) : MemJ val :=
  leaf h [(.c 0), (.c 0), (.c 0), (.c 0), (.c 0), (.c 0), (.c 0), (.c 2)] rfl (by kernel_rfl)

theorem memJ192 (val : Nat → Int) (h : Holds val [.ne (.a 3) 0, .is (.a 2) 0, .is (.a 1) 0, .is (.a 0) 0, .is (.a 6) 8, .ne (.a 6) 4, .ne (.a 6) 2, .ne (.a 6) 1, .ne (.a 6) 0, .le (.a 5) 2147483647, .ge (.a 5) (-2147483648)]) : MemJ val :=
  leaf h [(.c 0), (.c 0), (.c 0), (.c 0), (.c 0), (.c 0), (.c 0), (.c 2)] rfl (by kernel_rfl)

theorem memJ193 (val : Nat → Int) (h : Holds val [.is (.a 3) 4, .is (.a 4) 1, .le (.a 3) 15, .ge (.a 3) 0, .is (.a 2) 5, .ne (.a 2) 0, .is (.a 1) 0, .is (.a 0) 0, .is (.a 6) 8, .ne (.a 6) 4, .ne (.a 6) 2, .ne (.a 6) 1, .ne (.a 6) 0, .le (.a 5) 2147483647, .ge (.a 5) (-2147483648)]) : MemJ val :=
  leaf h [(.a 2), (.a 3), (.c 0), (.c 0), (.c 0), (.a 5), (.a 6), (.c 0)] rfl (by kernel_rfl)

theorem memJ194 (val : Nat → Int) (h : Holds val [.ne (.a 3) 4, .is (.a 4) 1, .le (.a 3) 15, .ge (.a 3) 0, .is (.a 2) 5, .ne (.a 2) 0, .is (.a 1) 0, .is (.a 0) 0, .is (.a 6) 8, .ne (.a 6) 4, .ne (.a 6) 2, .ne (.a 6) 1, .ne (.a 6) 0, .le (.a 5) 2147483647, .ge (.a 5) (-2147483648)]) : MemJ val :=
  leaf h [(.a 2), (.a 3), (.c 0), (.c 0), (.c 0), (.a 5), (.a 6), (.c 0)] rfl (by kernel_rfl)

theorem memJ195 (val : Nat → Int) (h : Holds val [.is (.a 3) 4, .is (.a 4) 2, .ne (.a 4) 1, .le (.a 3) 15, .ge (.a 3) 0, .is (.a 2) 5, .ne (.a 2) 0, .is (.a 1) 0, .is (.a 0) 0, .is (.a 6) 8, .ne (.a 6) 4, .ne (.a 6) 2, .ne (.a 6) 1, .ne (.a 6) 0, .le (.a 5) 2147483647, .ge (.a 5) (-2147483648)]) : MemJ val :=
  leaf h [(.c 0), (.c 0), (.c 0), (.c 0), (.c 0), (.c 0), (.c 0), (.c 2)] rfl (by kernel_rfl)

theorem memJ196 (val : Nat → Int) (h : Holds val [.ne (.a 3) 4, .is (.a 4) 2, .ne (.a 4) 1, .le (.a 3) 15, .ge (.a 3) 0, .is (.a 2) 5, .ne (.a 2) 0, .is (.a 1) 0, .is (.a 0) 0, .is (.a 6) 8, .ne (.a 6) 4, .ne (.a 6) 2, .ne (.a 6) 1, .ne (.a 6) 0, .le (.a 5) 2147483647, .ge (.a 5) (-2147483648)]) : MemJ val :=
  leaf h [(.a 0), (.a 1), (.a 2), (.a 3), (.a 4), (.a 5), (.a 6), (.c 0)] rfl (by kernel_rfl)

theorem memJ197 (val : Nat → Int) (h : Holds val [.is (.a 3) 4, .is (.a 4) 4, .ne (.a 4) 2, .ne (.a 4) 1, .le (.a 3) 15, .ge (.a 3) 0, .is (.a 2) 5, .ne (.a 2) 0, .is (.a 1) 0, .is (.a 0) 0, .is (.a 6) 8, .ne (.a 6) 4, .ne (.a 6) 2, .ne (.a 6) 1, .ne (.a 6) 0, .le (.a 5) 2147483647, .ge (.a 5) (-2147483648)]) : MemJ val :=
  leaf h [(.c 0), (.c 0), (.c 0), (.c 0), (.c 0), (.c 0), (.c 0), (.c 2)] rfl (by kernel_rfl)

theorem memJ198 (val : Nat → Int) (h : Holds val [.ne (.a 3) 4, .is (.a 4) 4, .ne (.a 4) 2, .ne (.a 4) 1, .le (.a 3) 15, .ge (.a 3) 0, .is (.a 2) 5, .ne (.a 2) 0, .is (.a 1) 0, .is (.a 0) 0, .is (.a 6) 8, .ne (.a 6) 4, .ne (.a 6) 2, .ne (.a 6) 1, .ne (.a 6) 0, .le (.a 5) 2147483647, .ge (.a 5) (-2147483648)]) : MemJ val :=
  leaf h [(.a 0), (.a 1), (.a 2), (.a 3), (.a 4), (.a 5), (.a 6), (.c 0)] rfl (by kernel_rfl)

theorem memJ199 (val : Nat → Int) (h : Holds val [.is (.a 3) 4, .is (.a 4) 8, .ne (.a 4) 4, .ne (.a 4) 2, .ne (.a 4) 1, .le (.a 3) 15, .ge (.a 3) 0, .is (.a 2) 5, .ne (.a 2) 0, .is (.a 1) 0, .is (.a 0) 0, .is (.a 6) 8, .ne (.a 6) 4, .ne (.a 6) 2, .ne (.a 6) 1, .ne (.a 6) 0, .le (.a 5) 2147483647, .ge (.a 5) (-2147483648)]) : MemJ val :=
  leaf h [(.c 0), (.c 0), (.c 0), (.c 0), (.c 0), (.c 0), (.c 0), (.c 2)] rfl (by kernel_rfl)

theorem memJ200 (val : Nat → Int) (h : Holds val [.ne (.a 3) 4, .is (.a 4) 8, .ne (.a 4) 4, .ne (.a 4) 2, .ne (.a 4) 1, .le (.a 3) 15, .ge (.a 3) 0, .is (.a 2) 5, .ne (.a 2) 0, .is (.a 1) 0, .is (.a 0) 0, .is (.a 6) 8, .ne (.a 6) 4, .ne (.a 6) 2, .ne (.a 6) 1, .ne (.a 6) 0, .le (.a 5) 2147483647, .ge (.a 5) (-2147483648)]) : MemJ val :=
  leaf h [(.a 0), (.a 1), (.a 2), (.a 3), (.a 4), (.a 5), (.a 6), (.c 0)] rfl (by kernel_rfl)

theorem memJ201 (val : Nat → Int) (h : Holds val [.ne (.a 4) 8, .ne (.a 4) 4, .ne (.a 4) 2, .ne (.a 4) 1, .le (.a 3) 15, .ge (.a 3) 0, .is (.a 2) 5, .ne (.a 2) 0, .is (.a 1) 0, .is (.a 0) 0, .is (.a 6) 8, .ne (.a 6) 4, .ne (.a 6) 2, .ne (.a 6) 1, .ne (.a 6) 0, .le (.a 5) 2147483647, .ge (.a 5) (-2147483648)]) : MemJ val :=
  leaf h [(.c 0), (.c 0), (.c 0), (.c 0), (.c 0), (.c 0), (.c 0), (.c 2)] rfl (by kernel_rfl)

theorem memJ202 (val : Nat → Int) (h : Holds val [.ge (.a 3) 16, .ge (.a 3) 0, .is (.a 2) 5, .ne (.a 2) 0, .is (.a 1) 0, .is (.a 0) 0, .is (.a 6) 8, .ne (.a 6) 4, .ne (.a 6) 2, .ne (.a 6) 1, .ne (.a 6) 0, .le (.a 5) 2147483647, .ge (.a 5) (-2147483648)]) : MemJ val :=
  leaf h [(.c 0), (.c 0), (.c 0), (.c 0), (.c 0), (.c 0), (.c 0), (.c 2)] rfl (by kernel_rfl)

theorem memJ203 (val : Nat → Int) (h : Holds val [.le (.a 3) (-1), .is (.a 2) 5, .ne (.a 2) 0, .is (.a 1) 0, .is (.a 0) 0, .is (.a 6) 8, .ne (.a 6) 4, .ne (.a 6) 2, .ne (.a 6) 1, .ne (.a 6) 0, .le (.a 5) 2147483647, .ge (.a 5) (-2147483648)]) : MemJ val :=
  leaf h [(.c 0), (.c 0), (.c 0), (.c 0), (.c 0), (.c 0), (.c 0), (.c 2)] rfl (by kernel_rfl)

theorem memJ204 (val : Nat → Int) (h : Holds val [.ne (.a 2) 5, .ne (.a 2) 0, .is (.a 1) 0, .is (.a 0) 0, .is (.a 6) 8, .ne (.a 6) 4, .ne (.a 6) 2, .ne (.a 6) 1, .ne (.a 6) 0, .le (.a 5) 2147483647, .ge (.a 5) (-2147483648)]) : MemJ val :=
  leaf h [(.c 0), (.c 0), (.c 0), (.c 0), (.c 0), (.c 0), (.c 0), (.c 2)] rfl (by kernel_rfl)

theorem memJ205 (val : Nat → Int) (h : Holds val [.ne (.a 1) 0, .is (.a 0) 0, .is (.a 6) 8, .ne (.a 6) 4, .ne (.a 6) 2, .ne (.a 6) 1, .ne (.a 6) 0, .le (.a 5) 2147483647, .ge (.a 5) (-2147483648)]) : MemJ val :=
  leaf h [(.c 0), (.c 0), (.c 0), (.c 0), (.c 0), (.c 0), (.c 0), (.c 2)] rfl (by kernel_rfl)

theorem memJ206 (val : Nat → Int) (h : Holds val [.is (.a 4) 0, .is (.a 3) 0, .is (.a 2) 0, .is (.a 1) 0, .is (.a 0) 8, .ne (.a 0) 0, .is (.a 6) 8, .ne (.a 6) 4, .ne (.a 6) 2, .ne (.a 6) 1, .ne (.a 6) 0, .le (.a 5) 2147483647, .ge (.a 5) (-2147483648)]) : MemJ val :=
  leaf h [(.a 0), (.a 1), (.a 2), (.a 3), (.a 4), (.a 5), (.a 6), (.c 0)] rfl (by kernel_rfl)

theorem memJ207 (val : Nat → Int) (h : Holds val [.ne (.a 4) 0, .is (.a 3) 0, .is (.a 2) 0, .is (.a 1) 0, .is (.a 0) 8, .ne (.a 0) 0, .is (.a 6) 8, .ne (.a 6) 4, .ne (.a 6) 2, .ne (.a 6) 1, .ne (.a 6) 0, .le (.a 5) 2147483647, .ge (.a 5) (-2147483648)]) : MemJ val :=
  leaf h [(.c 0), (.c 0), (.c 0), (.c 0), (.c 0), (.c 0), (.c 0), (.c 2)] rfl (by kernel_rfl)

theorem memJ208 (val : Nat → Int) (h : Holds val [.ne (.a 3) 0, .is (.a 2) 0, .is (.a 1) 0, .is (.a 0) 8, .ne (.a 0) 0, .is (.a 6) 8, .ne (.a 6) 4, .ne (.a 6) 2, .ne (.a 6) 1, .ne (.a 6) 0, .le (.a 5) 2147483647, .ge (.a 5) (-2147483648)]) : MemJ val :=
  leaf h [(.c 0), (.c 0), (.c 0), (.c 0), (.c 0), (.c 0), (.c 0), (.c 2)] rfl (by kernel_rfl)

theorem memJ209 (val : Nat → Int) (h : Holds val [.is (.a 4) 1, .le (.a 3) 15, .ge (.a 3) 0, .is (.a 2) 5, .ne (.a 2) 0, .is (.a 1) 0, .is (.a 0) 8, .ne (.a 0) 0, .is (.a 6) 8, .ne (.a 6) 4, .ne (.a 6) 2, .ne (.a 6) 1, .ne (.a 6) 0, .le (.a 5) 2147483647, .ge (.a 5) (-2147483648)]) : MemJ val :=
  leaf h [(.c 0), (.c 0), (.c 0), (.c 0), (.c 0), (.c 0), (.c 0), (.c 2)] rfl (by kernel_rfl)

theorem memJ210 (val : Nat → Int) (h : Holds val [.is (.a 4) 2, .ne (.a 4) 1, .le (.a 3) 15, .ge (.a 3) 0, .is (.a 2) 5, .ne (.a 2) 0, .is (.a 1) 0, .is (.a 0) 8, .ne (.a 0) 0, .is (.a 6) 8, .ne (.a 6) 4, .ne (.a 6) 2, .ne (.a 6) 1, .ne (.a 6) 0, .le (.a 5) 2147483647, .ge (.a 5) (-2147483648)]) : MemJ val :=
  leaf h [(.c 0), (.c 0), (.c 0), (.c 0), (.c 0), (.c 0), (.c 0), (.c 2)] rfl (by kernel_rfl)

theorem memJ211 (val : Nat → Int) (h : Holds val [.is (.a 4) 4, .ne (.a 4) 2, .ne (.a 4) 1, .le (.a 3) 15, .ge (.a 3) 0, .is (.a 2) 5, .ne (.a 2) 0, .is (.a 1) 0, .is (.a 0) 8, .ne (.a 0) 0, .is (.a 6) 8, .ne (.a 6) 4, .ne (.a 6) 2, .ne (.a 6) 1, .ne (.a 6) 0, .le (.a 5) 2147483647, .ge (.a 5) (-2147483648)]) : MemJ val :=
  leaf h [(.c 0), (.c 0), (.c 0), (.c 0), (.c 0), (.c 0), (.c 0), (.c 2)] rfl (by kernel_rfl)

theorem memJ212 (val : Nat → Int) (h : Holds val [.is (.a 4) 8, .ne (.a 4) 4, .ne (.a 4) 2, .ne (.a 4) 1, .le (.a 3) 15, .ge (.a 3) 0, .is (.a 2) 5, .ne (.a 2) 0, .is (.a 1) 0, .is (.a 0) 8, .ne (.a 0) 0, .is (.a 6) 8, .ne (.a 6) 4, .ne (.a 6) 2, .ne (.a 6) 1, .ne (.a 6) 0, .le (.a 5) 2147483647, .ge (.a 5) (-2147483648)]) : MemJ val :=
  leaf h [(.c 0), (.c 0), (.c 0), (.c 0), (.c 0), (.c 0), (.c 0), (.c 2)] rfl (by kernel_rfl)

theorem memJ213 (val : Nat → Int) (h : Holds val [.ne (.a 4) 8, .ne (.a 4) 4, .ne (.a 4) 2, .ne (.a 4) 1, .le (.a 3) 15, .ge (.a 3) 0, .is (.a 2) 5, .ne (.a 2) 0, .is (.a 1) 0, .is (.a 0) 8, .ne (.a 0) 0, .is (.a 6) 8, .ne (.a 6) 4, .ne (.a 6) 2, .ne (.a 6) 1, .ne (.a 6) 0, .le (.a 5) 2147483647, .ge (.a 5) (-2147483648)]) : MemJ val :=
  leaf h [(.c 0), (.c 0), (.c 0), (.c 0), (.c 0), (.c 0), (.c 0), (.c 2)] rfl (by kernel_rfl)

theorem memJ214 (val : Nat → Int) (h : Holds val [.ge (.a 3) 16, .ge (.a 3) 0, .is (.a 2) 5, .ne (.a 2) 0, .is (.a 1) 0, .is (.a 0) 8, .ne (.a 0) 0, .is (.a 6) 8, .ne (.a 6) 4, .ne (.a 6) 2, .ne (.a 6) 1, .ne (.a 6) 0, .le (.a 5) 2147483647, .ge (.a 5) (-2147483648)]) : MemJ val :=
  leaf h [(.c 0), (.c 0), (.c 0), (.c 0), (.c 0), (.c 0), (.c 0), (.c 2)] rfl (by kernel_rfl)

theorem memJ215 (val : Nat → Int) (h : Holds val [.le (.a 3) (-1), .is (.a 2) 5, .ne (.a 2) 0, .is (.a 1) 0, .is (.a 0) 8, .ne (.a 0) 0, .is (.a 6) 8, .ne (.a 6) 4, .ne (.a 6) 2, .ne (.a 6) 1, .ne (.a 6) 0, .le (.a 5) 2147483647, .ge (.a 5) (-2147483648)]) : MemJ val :=
  leaf h [(.c 0), (.c 0), (.c 0), (.c 0), (.c 0), (.c 0), (.c 0), (.c 2)] rfl (by kernel_rfl)

theorem memJ216 (val : Nat → Int) (h : Holds val [.ne (.a 2) 5, .ne (.a 2) 0, .is (.a 1) 0, .is (.a 0) 8, .ne (.a 0) 0, .is (.a 6) 8, .ne (.a 6) 4, .ne (.a 6) 2, .ne (.a 6) 1, .ne (.a 6) 0, .le (.a 5) 2147483647, .ge (.a 5) (-2147483648)]) : MemJ val :=
  leaf h [(.c 0), (.c 0), (.c 0), (.c 0), (.c 0), (.c 0), (.c 0), (.c 2)] rfl (by kernel_rfl)

theorem memJ217 (val : Nat → Int) (h : Holds val [.ne (.a 1) 0, .is (.a 0) 8, .ne (.a 0) 0, .is (.a 6) 8, .ne (.a 6) 4, .ne (.a 6) 2, .ne (.a 6) 1, .ne (.a 6) 0, .le (.a 5) 2147483647, .ge (.a 5) (-2147483648)]) : MemJ val :=
  leaf h [(.c 0), (.c 0), (.c 0), (.c 0), (.c 0), (.c 0), (.c 0), (.c 2)] rfl (by kernel_rfl)

theorem memJ218 (val : Nat → Int) (h : Holds val [.is (.a 4) 0, .is (.a 3) 0, .is (.a 2) 0, .le (.a 1) 15, .ge (.a 1) 0, .is (.a 0) 5, .ne (.a 0) 8, .ne (.a 0) 0, .is (.a 6) 8, .ne (.a 6) 4, .ne (.a 6) 2, .ne (.a 6) 1, .ne (.a 6) 0, .le (.a 5) 2147483647, .ge (.a 5) (-2147483648)]) : MemJ val :=
  leaf h [(.a 0), (.a 1), (.a 2), (.a 3), (.a 4), (.a 5), (.a 6), (.c 0)] rfl (by kernel_rfl)

theorem memJ219 (val : Nat → Int) (h : Holds val [.ne (.a 4) 0, .is (.a 3) 0, .is (.a 2) 0, .le (.a 1) 15, .ge (.a 1) 0, .is (.a 0) 5, .ne (.a 0) 8, .ne (.a 0) 0, .is (.a 6) 8, .ne (.a 6) 4, .ne (.a 6) 2, .ne (.a 6) 1, .ne (.a 6) 0, .le (.a 5) 2147483647, .ge (.a 5) (-2147483648)]) : MemJ val :=
  leaf h [(.c 0), (.c 0), (.c 0), (.c 0), (.c 0), (.c 0), (.c 0), (.c 2)] rfl (by kernel_rfl)

theorem memJ220 (val : Nat → Int) (h : Holds val [.ne (.a 3) 0, .is (.a 2) 0, .le (.a 1) 15, .ge (.a 1) 0, .is (.a 0) 5, .ne (.a 0) 8, .ne (.a 0) 0, .is (.a 6) 8, .ne (.a 6) 4, .ne (.a 6) 2, .ne (.a 6) 1, .ne (.a 6) 0, .le (.a 5) 2147483647, .ge (.a 5) (-2147483648)]) : MemJ val :=
  leaf h [(.c 0), (.c 0), (.c 0), (.c 0), (.c 0), (.c 0), (.c 0), (.c 2)] rfl (by kernel_rfl)

theorem memJ221 (val : Nat → Int) (h : Holds val [.is (.a 1) 4, .is (.a 3) 4, .is (.a 4) 1, .le (.a 3) 15, .ge (.a 3) 0, .is (.a 2) 5, .ne (.a 2) 0, .le (.a 1) 15, .ge (.a 1) 0, .is (.a 0) 5, .ne (.a 0) 8, .ne (.a 0) 0, .is (.a 6) 8, .ne (.a 6) 4, .ne (.a 6) 2, .ne (.a 6) 1, .ne (.a 6) 0, .le (.a 5) 2147483647, .ge (.a 5) (-2147483648)]) : MemJ val :=
  leaf h [(.c 0), (.c 0), (.c 0), (.c 0), (.c 0), (.c 0), (.c 0), (.c 2)] rfl (by kernel_rfl)

end Go.Proofs.Ytlegmdfceifkcaa.Tab
