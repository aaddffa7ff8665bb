/-
  Ways through the code, part 0.
-/
import Derived.Test.YtlegmdfceifkcaaMemB
namespace Go.Proofs.Ytlegmdfceifkcaa.Tab
open Go.Sim
set_option maxRecDepth 100000

theorem memJ_0 (val : Nat → Int) (h : Holds val [.le (.a 5) (-2147483649)]) : MemJ val :=
  leafM h [(.c 0), (.c 0), (.c 0), (.c 0), (.c 0), (.c 0), (.c 0), (.c 5)] rfl (by kernel_rfl)

theorem memJ_1 (val : Nat → Int) (h : Holds val [.ge (.a 5) 2147483648, .ge (.a 5) (-2147483648)]) : MemJ val :=
  leafM h [(.c 0), (.c 0), (.c 0), (.c 0), (.c 0), (.c 0), (.c 0), (.c 5)] rfl (by kernel_rfl)

theorem memJ_2 (val : Nat → Int) (h : Holds val [.is (.a 4) 0, .is (.a 3) 0, .is (.a 2) 0, .is (.a 1) 0, .is (.a 0) 0, .at (.or (.eq (.a 6) (.c 0)) (.or (.eq (.a 6) (.c 1)) (.or (.eq (.a 6) (.c 2)) (.or (.eq (.a 6) (.c 4)) (.or (.eq (.a 6) (.c 8)) (.or (.eq (.a 6) (.c 16)) (.or (.eq (.a 6) (.c 32)) .ff))))))) true, .le (.a 5) 2147483647, .ge (.a 5) (-2147483648)]) : MemJ val :=
  leafM h [(.a 0), (.a 1), (.a 2), (.a 3), (.a 4), (.a 5), (.a 6), (.c 0)] rfl (by kernel_rfl)

theorem memJ_3 (val : Nat → Int) (h : Holds val [.ne (.a 4) 0, .is (.a 3) 0, .is (.a 2) 0, .is (.a 1) 0, .is (.a 0) 0, .at (.or (.eq (.a 6) (.c 0)) (.or (.eq (.a 6) (.c 1)) (.or (.eq (.a 6) (.c 2)) (.or (.eq (.a 6) (.c 4)) (.or (.eq (.a 6) (.c 8)) (.or (.eq (.a 6) (.c 16)) (.or (.eq (.a 6) (.c 32)) .ff))))))) true, .le (.a 5) 2147483647, .ge (.a 5) (-2147483648)]) : MemJ val :=
  leafM h [(.c 0), (.c 0), (.c 0), (.c 0), (.c 0), (.c 0), (.c 0), (.c 2)] rfl (by kernel_rfl)

theorem memJ_4 (val : Nat → Int) (h : Holds val [.ne (.a 3) 0, .is (.a 2) 0, .is (.a 1) 0, .is (.a 0) 0, .at (.or (.eq (.a 6) (.c 0)) (.or (.eq (.a 6) (.c 1)) (.or (.eq (.a 6) (.c 2)) (.or (.eq (.a 6) (.c 4)) (.or (.eq (.a 6) (.c 8)) (.or (.eq (.a 6) (.c 16)) (.or (.eq (.a 6) (.c 32)) .ff))))))) true, .le (.a 5) 2147483647, .ge (.a 5) (-2147483648)]) : MemJ val :=
  leafM h [(.c 0), (.c 0), (.c 0), (.c 0), (.c 0), (.c 0), (.c 0), (.c 2)] rfl (by kernel_rfl)

theorem memJ_5 (val : Nat → Int) (h : Holds val [.is (.a 4) 1, .is (.a 3) 4, .at (.or (.eq (.a 4) (.c 1)) (.or (.eq (.a 4) (.c 2)) (.or (.eq (.a 4) (.c 4)) (.or (.eq (.a 4) (.c 8)) .ff)))) true, .le (.a 3) 15, .ge (.a 3) 0, .is (.a 2) 5, .ne (.a 2) 0, .is (.a 1) 0, .is (.a 0) 0, .at (.or (.eq (.a 6) (.c 0)) (.or (.eq (.a 6) (.c 1)) (.or (.eq (.a 6) (.c 2)) (.or (.eq (.a 6) (.c 4)) (.or (.eq (.a 6) (.c 8)) (.or (.eq (.a 6) (.c 16)) (.or (.eq (.a 6) (.c 32)) .ff))))))) true, .le (.a 5) 2147483647, .ge (.a 5) (-2147483648)]) : MemJ val :=
  leafM h [(.a 2), (.a 3), (.c 0), (.c 0), (.c 0), (.a 5), (.a 6), (.c 0)] rfl (by kernel_rfl)

theorem memJ_6 (val : Nat → Int) (h : Holds val [.ne (.a 4) 1, .is (.a 3) 4, .at (.or (.eq (.a 4) (.c 1)) (.or (.eq (.a 4) (.c 2)) (.or (.eq (.a 4) (.c 4)) (.or (.eq (.a 4) (.c 8)) .ff)))) true, .le (.a 3) 15, .ge (.a 3) 0, .is (.a 2) 5, .ne (.a 2) 0, .is (.a 1) 0, .is (.a 0) 0, .at (.or (.eq (.a 6) (.c 0)) (.or (.eq (.a 6) (.c 1)) (.or (.eq (.a 6) (.c 2)) (.or (.eq (.a 6) (.c 4)) (.or (.eq (.a 6) (.c 8)) (.or (.eq (.a 6) (.c 16)) (.or (.eq (.a 6) (.c 32)) .ff))))))) true, .le (.a 5) 2147483647, .ge (.a 5) (-2147483648)]) : MemJ val :=
  leafM h [(.c 0), (.c 0), (.c 0), (.c 0), (.c 0), (.c 0), (.c 0), (.c 2)] rfl (by kernel_rfl)

theorem memJ_7 (val : Nat → Int) (h : Holds val [.is (.a 4) 1, .ne (.a 3) 4, .at (.or (.eq (.a 4) (.c 1)) (.or (.eq (.a 4) (.c 2)) (.or (.eq (.a 4) (.c 4)) (.or (.eq (.a 4) (.c 8)) .ff)))) true, .le (.a 3) 15, .ge (.a 3) 0, .is (.a 2) 5, .ne (.a 2) 0, .is (.a 1) 0, .is (.a 0) 0, .at (.or (.eq (.a 6) (.c 0)) (.or (.eq (.a 6) (.c 1)) (.or (.eq (.a 6) (.c 2)) (.or (.eq (.a 6) (.c 4)) (.or (.eq (.a 6) (.c 8)) (.or (.eq (.a 6) (.c 16)) (.or (.eq (.a 6) (.c 32)) .ff))))))) true, .le (.a 5) 2147483647, .ge (.a 5) (-2147483648)]) : MemJ val :=
  leafM h [(.a 2), (.a 3), (.c 0), (.c 0), (.c 0), (.a 5), (.a 6), (.c 0)] rfl (by kernel_rfl)

theorem memJ_8 (val : Nat → Int) (h : Holds val [.ne (.a 4) 1, .ne (.a 3) 4, .at (.or (.eq (.a 4) (.c 1)) (.or (.eq (.a 4) (.c 2)) (.or (.eq (.a 4) (.c 4)) (.or (.eq (.a 4) (.c 8)) .ff)))) true, .le (.a 3) 15, .ge (.a 3) 0, .is (.a 2) 5, .ne (.a 2) 0, .is (.a 1) 0, .is (.a 0) 0, .at (.or (.eq (.a 6) (.c 0)) (.or (.eq (.a 6) (.c 1)) (.or (.eq (.a 6) (.c 2)) (.or (.eq (.a 6) (.c 4)) (.or (.eq (.a 6) (.c 8)) (.or (.eq (.a 6) (.c 16)) (.or (.eq (.a 6) (.c 32)) .ff))))))) true, .le (.a 5) 2147483647, .ge (.a 5) (-2147483648)]) : MemJ val :=
  leafM h [(.a 0), (.a 1), (.a 2), (.a 3), (.a 4), (.a 5), (.a 6), (.c 0)] rfl (by kernel_rfl)

theorem memJ_9 (val : Nat → Int) (h : Holds val [.at (.or (.eq (.a 4) (.c 1)) (.or (.eq (.a 4) (.c 2)) (.or (.eq (.a 4) (.c 4)) (.or (.eq (.a 4) (.c 8)) .ff)))) false, .le (.a 3) 15, .ge (.a 3) 0, .is (.a 2) 5, .ne (.a 2) 0, .is (.a 1) 0, .is (.a 0) 0, .at (.or (.eq (.a 6) (.c 0)) (.or (.eq (.a 6) (.c 1)) (.or (.eq (.a 6) (.c 2)) (.or (.eq (.a 6) (.c 4)) (.or (.eq (.a 6) (.c 8)) (.or (.eq (.a 6) (.c 16)) (.or (.eq (.a 6) (.c 32)) .ff))))))) true, .le (.a 5) 2147483647, .ge (.a 5) (-2147483648)]) : MemJ val :=
  leafM h [(.c 0), (.c 0), (.c 0), (.c 0), (.c 0), (.c 0), (.c 0), (.c 2)] rfl (by kernel_rfl)

theorem memJ_10 (val : Nat → Int) (h : Holds val [.ge (.a 3) 16, .ge (.a 3) 0, .is (.a 2) 5, .ne (.a 2) 0, .is (.a 1) 0, .is (.a 0) 0, .at (.or (.eq (.a 6) (.c 0)) (.or (.eq (.a 6) (.c 1)) (.or (.eq (.a 6) (.c 2)) (.or (.eq (.a 6) (.c 4)) (.or (.eq (.a 6) (.c 8)) (.or (.eq (.a 6) (.c 16)) (.or (.eq (.a 6) (.c 32)) .ff))))))) true, .le (.a 5) 2147483647, .ge (.a 5) (-2147483648)]) : MemJ val :=
  leafM h [(.c 0), (.c 0), (.c 0), (.c 0), (.c 0), (.c 0), (.c 0), (.c 2)] rfl (by kernel_rfl)

theorem memJ_11 (val : Nat → Int) (h : Holds val [.le (.a 3) (-1), .is (.a 2) 5, .ne (.a 2) 0, .is (.a 1) 0, .is (.a 0) 0, .at (.or (.eq (.a 6) (.c 0)) (.or (.eq (.a 6) (.c 1)) (.or (.eq (.a 6) (.c 2)) (.or (.eq (.a 6) (.c 4)) (.or (.eq (.a 6) (.c 8)) (.or (.eq (.a 6) (.c 16)) (.or (.eq (.a 6) (.c 32)) .ff))))))) true, .le (.a 5) 2147483647, .ge (.a 5) (-2147483648)]) : MemJ val :=
  leafM h [(.c 0), (.c 0), (.c 0), (.c 0), (.c 0), (.c 0), (.c 0), (.c 2)] rfl (by kernel_rfl)

theorem memJ_12 (val : Nat → Int) (h : Holds val [.ne (.a 2) 5, .ne (.a 2) 0, .is (.a 1) 0, .is (.a 0) 0, .at (.or (.eq (.a 6) (.c 0)) (.or (.eq (.a 6) (.c 1)) (.or (.eq (.a 6) (.c 2)) (.or (.eq (.a 6) (.c 4)) (.or (.eq (.a 6) (.c 8)) (.or (.eq (.a 6) (.c 16)) (.or (.eq (.a 6) (.c 32)) .ff))))))) true, .le (.a 5) 2147483647, .ge (.a 5) (-2147483648)]) : MemJ val :=
  leafM h [(.c 0), (.c 0), (.c 0), (.c 0), (.c 0), (.c 0), (.c 0), (.c 2)] rfl (by kernel_rfl)

theorem memJ_13 (val : Nat → Int) (h : Holds val [.ne (.a 1) 0, .is (.a 0) 0, .at (.or (.eq (.a 6) (.c 0)) (.or (.eq (.a 6) (.c 1)) (.or (.eq (.a 6) (.c 2)) (.or (.eq (.a 6) (.c 4)) (.or (.eq (.a 6) (.c 8)) (.or (.eq (.a 6) (.c 16)) (.or (.eq (.a 6) (.c 32)) .ff))))))) true, .le (.a 5) 2147483647, .ge (.a 5) (-2147483648)]) : MemJ val :=
  leafM h [(.c 0), (.c 0), (.c 0), (.c 0), (.c 0), (.c 0), (.c 0), (.c 2)] rfl (by kernel_rfl)

theorem memJ_14 (val : Nat → Int) (h : Holds val [.is (.a 4) 0, .is (.a 3) 0, .is (.a 2) 0, .is (.a 1) 0, .is (.a 0) 8, .ne (.a 0) 0, .at (.or (.eq (.a 6) (.c 0)) (.or (.eq (.a 6) (.c 1)) (.or (.eq (.a 6) (.c 2)) (.or (.eq (.a 6) (.c 4)) (.or (.eq (.a 6) (.c 8)) (.or (.eq (.a 6) (.c 16)) (.or (.eq (.a 6) (.c 32)) .ff))))))) true, .le (.a 5) 2147483647, .ge (.a 5) (-2147483648)]) : MemJ val :=
  leafM h [(.a 0), (.a 1), (.a 2), (.a 3), (.a 4), (.a 5), (.a 6), (.c 0)] rfl (by kernel_rfl)

theorem memJ_15 (val : Nat → Int) (h : Holds val [.ne (.a 4) 0, .is (.a 3) 0, .is (.a 2) 0, .is (.a 1) 0, .is (.a 0) 8, .ne (.a 0) 0, .at (.or (.eq (.a 6) (.c 0)) (.or (.eq (.a 6) (.c 1)) (.or (.eq (.a 6) (.c 2)) (.or (.eq (.a 6) (.c 4)) (.or (.eq (.a 6) (.c 8)) (.or (.eq (.a 6) (.c 16)) (.or (.eq (.a 6) (.c 32)) .ff))))))) true, .le (.a 5) 2147483647, .ge (.a 5) (-2147483648)]) : MemJ val :=
  leafM h [(.c 0), (.c 0), (.c 0), (.c 0), (.c 0), (.c 0), (.c 0), (.c 2)] rfl (by kernel_rfl)

theorem memJ_16 (val : Nat → Int) (h : Holds val [.ne (.a 3) 0, .is (.a 2) 0, .is (.a 1) 0, .is (.a 0) 8, .ne (.a 0) 0, .at (.or (.eq (.a 6) (.c 0)) (.or (.eq (.a 6) (.c 1)) (.or (.eq (.a 6) (.c 2)) (.or (.eq (.a 6) (.c 4)) (.or (.eq (.a 6) (.c 8)) (.or (.eq (.a 6) (.c 16)) (.or (.eq (.a 6) (.c 32)) .ff))))))) true, .le (.a 5) 2147483647, .ge (.a 5) (-2147483648)]) : MemJ val :=
  leafM h [(.c 0), (.c 0), (.c 0), (.c 0), (.c 0), (.c 0), (.c 0), (.c 2)] rfl (by kernel_rfl)

theorem memJ_17 (val : Nat → Int) (h : Holds val [.at (.or (.eq (.a 4) (.c 1)) (.or (.eq (.a 4) (.c 2)) (.or (.eq (.a 4) (.c 4)) (.or (.eq (.a 4) (.c 8)) .ff)))) true, .le (.a 3) 15, .ge (.a 3) 0, .is (.a 2) 5, .ne (.a 2) 0, .is (.a 1) 0, .is (.a 0) 8, .ne (.a 0) 0, .at (.or (.eq (.a 6) (.c 0)) (.or (.eq (.a 6) (.c 1)) (.or (.eq (.a 6) (.c 2)) (.or (.eq (.a 6) (.c 4)) (.or (.eq (.a 6) (.c 8)) (.or (.eq (.a 6) (.c 16)) (.or (.eq (.a 6) (.c 32)) .ff))))))) true, .le (.a 5) 2147483647, .ge (.a 5) (-2147483648)]) : MemJ val :=
  leafM h [(.c 0), (.c 0), (.c 0), (.c 0), (.c 0), (.c 0), (.c 0), (.c 2)] rfl (by kernel_rfl)

theorem memJ_18 (val : Nat → Int) (h : Holds val [.at (.or (.eq (.a 4) (.c 1)) (.or (.eq (.a 4) (.c 2)) (.or (.eq (.a 4) (.c 4)) (.or (.eq (.a 4) (.c 8)) .ff)))) false, .le (.a 3) 15, .ge (.a 3) 0, .is (.a 2) 5, .ne (.a 2) 0, .is (.a 1) 0, .is (.a 0) 8, .ne (.a 0) 0, .at (.or (.eq (.a 6) (.c 0)) (.or (.eq (.a 6) (.c 1)) (.or (.eq (.a 6) (.c 2)) (.or (.eq (.a 6) (.c 4)) (.or (.eq (.a 6) (.c 8)) (.or (.eq (.a 6) (.c 16)) (.or (.eq (.a 6) (.c 32)) .ff))))))) true, .le (.a 5) 2147483647, .ge (.a 5) (-2147483648)]) : MemJ val :=
  leafM h [(.c 0), (.c 0), (.c 0), (.c 0), (.c 0), (.c 0), (.c 0), (.c 2)] rfl (by kernel_rfl)

theorem memJ_19 (val : Nat → Int) (h : Holds val [.ge (.a 3) 16, .ge (.a 3) 0, .is (.a 2) 5, .ne (.a 2) 0, .is (.a 1) 0, .is (.a 0) 8, .ne (.a 0) 0, .at (.or (.eq (.a 6) (.c 0)) (.or (.eq (.a 6) (.c 1)) (.or (.eq (.a 6) (.c 2)) (.or (.eq (.a 6) (.c 4)) (.or (.eq (.a 6) (.c 8)) (.or (.eq (.a 6) (.c 16)) (.or (.eq (.a 6) (.c 32)) .ff))))))) true, .le (.a 5) 2147483647, .ge (.a 5) (-2147483648)]) : MemJ val :=
  leafM h [(.c 0), (.c 0), (.c 0), (.c 0), (.c 0), (.c 0), (.c 0), (.c 2)] rfl (by kernel_rfl)

theorem memJ_20 (val : Nat → Int) (h : Holds val [.le (.a 3) (-1), .is (.a 2) 5, .ne (.a 2) 0, .is (.a 1) 0, .is (.a 0) 8, .ne (.a 0) 0, .at (.or (.eq (.a 6) (.c 0)) (.or (.eq (.a 6) (.c 1)) (.or (.eq (.a 6) (.c 2)) (.or (.eq (.a 6) (.c 4)) (.or (.eq (.a 6) (.c 8)) (.or (.eq (.a 6) (.c 16)) (.or (.eq (.a 6) (.c 32)) .ff))))))) true, .le (.a 5) 2147483647, .ge (.a 5) (-2147483648)]) : MemJ val :=
  leafM h [(.c 0), (.c 0), (.c 0), (.c 0), (.c 0), (.c 0), (.c 0), (.c 2)] rfl (by kernel_rfl)

theorem memJ_21 (val : Nat → Int) (h : Holds val [.ne (.a 2) 5, .ne (.a 2) 0, .is (.a 1) 0, .is (.a 0) 8, .ne (.a 0) 0, .at (.or (.eq (.a 6) (.c 0)) (.or (.eq (.a 6) (.c 1)) (.or (.eq (.a 6) (.c 2)) (.or (.eq (.a 6) (.c 4)) (.or (.eq (.a 6) (.c 8)) (.or (.eq (.a 6) (.c 16)) (.or (.eq (.a 6) (.c 32)) .ff))))))) true, .le (.a 5) 2147483647, .ge (.a 5) (-2147483648)]) : MemJ val :=
  leafM h [(.c 0), (.c 0), (.c 0), (.c 0), (.c 0), (.c 0), (.c 0), (.c 2)] rfl (by kernel_rfl)

theorem memJ_22 (val : Nat → Int) (h : Holds val [.ne (.a 1) 0, .is (.a 0) 8, .ne (.a 0) 0, .at (.or (.eq (.a 6) (.c 0)) (.or (.eq (.a 6) (.c 1)) (.or (.eq (.a 6) (.c 2)) (.or (.eq (.a 6) (.c 4)) (.or (.eq (.a 6) (.c 8)) (.or (.eq (.a 6) (.c 16)) (.or (.eq (.a 6) (.c 32)) .ff))))))) true, .le (.a 5) 2147483647, .ge (.a 5) (-2147483648)]) : MemJ val :=
  leafM h [(.c 0), (.c 0), (.c 0), (.c 0), (.c 0), (.c 0), (.c 0), (.c 2)] rfl (by kernel_rfl)

theorem memJ_23 (val : Nat → Int) (h : Holds val [.is (.a 4) 0, .is (.a 3) 0, .is (.a 2) 0, .le (.a 1) 15, .ge (.a 1) 0, .is (.a 0) 5, .ne (.a 0) 8, .ne (.a 0) 0, .at (.or (.eq (.a 6) (.c 0)) (.or (.eq (.a 6) (.c 1)) (.or (.eq (.a 6) (.c 2)) (.or (.eq (.a 6) (.c 4)) (.or (.eq (.a 6) (.c 8)) (.or (.eq (.a 6) (.c 16)) (.or (.eq (.a 6) (.c 32)) .ff))))))) true, .le (.a 5) 2147483647, .ge (.a 5) (-2147483648)]) : MemJ val :=
  leafM h [(.a 0), (.a 1), (.a 2), (.a 3), (.a 4), (.a 5), (.a 6), (.c 0)] rfl (by kernel_rfl)

theorem memJ_24 (val : Nat → Int) (h : Holds val [.ne (.a 4) 0, .is (.a 3) 0, .is (.a 2) 0, .le (.a 1) 15, .ge (.a 1) 0, .is (.a 0) 5, .ne (.a 0) 8, .ne (.a 0) 0, .at (.or (.eq (.a 6) (.c 0)) (.or (.eq (.a 6) (.c 1)) (.or (.eq (.a 6) (.c 2)) (.or (.eq (.a 6) (.c 4)) (.or (.eq (.a 6) (.c 8)) (.or (.eq (.a 6) (.c 16)) (.or (.eq (.a 6) (.c 32)) .ff))))))) true, .le (.a 5) 2147483647, .ge (.a 5) (-2147483648)]) : MemJ val :=
  leafM h [(.c 0), (.c 0), (.c 0), (.c 0), (.c 0), (.c 0), (.c 0), (.c 2)] rfl (by kernel_rfl)

theorem memJ_25 (val : Nat → Int) (h : Holds val [.ne (.a 3) 0, .is (.a 2) 0, .le (.a 1) 15, .ge (.a 1) 0, .is (.a 0) 5, .ne (.a 0) 8, .ne (.a 0) 0, .at (.or (.eq (.a 6) (.c 0)) (.or (.eq (.a 6) (.c 1)) (.or (.eq (.a 6) (.c 2)) (.or (.eq (.a 6) (.c 4)) (.or (.eq (.a 6) (.c 8)) (.or (.eq (.a 6) (.c 16)) (.or (.eq (.a 6) (.c 32)) .ff))))))) true, .le (.a 5) 2147483647, .ge (.a 5) (-2147483648)]) : MemJ val :=
  leafM h [(.c 0), (.c 0), (.c 0), (.c 0), (.c 0), (.c 0), (.c 0), (.c 2)] rfl (by kernel_rfl)

theorem memJ_26 (val : Nat → Int) (h : Holds val [.is (.a 1) 4, .is (.a 4) 1, .is (.a 3) 4, .at (.or (.eq (.a 4) (.c 1)) (.or (.eq (.a 4) (.c 2)) (.or (.eq (.a 4) (.c 4)) (.or (.eq (.a 4) (.c 8)) .ff)))) true, .le (.a 3) 15, .ge (.a 3) 0, .is (.a 2) 5, .ne (.a 2) 0, .le (.a 1) 15, .ge (.a 1) 0, .is (.a 0) 5, .ne (.a 0) 8, .ne (.a 0) 0, .at (.or (.eq (.a 6) (.c 0)) (.or (.eq (.a 6) (.c 1)) (.or (.eq (.a 6) (.c 2)) (.or (.eq (.a 6) (.c 4)) (.or (.eq (.a 6) (.c 8)) (.or (.eq (.a 6) (.c 16)) (.or (.eq (.a 6) (.c 32)) .ff))))))) true, .le (.a 5) 2147483647, .ge (.a 5) (-2147483648)]) : MemJ val :=
  leafM h [(.c 0), (.c 0), (.c 0), (.c 0), (.c 0), (.c 0), (.c 0), (.c 2)] rfl (by kernel_rfl)

theorem memJ_27 (val : Nat → Int) (h : Holds val [.ne (.a 1) 4, .is (.a 4) 1, .is (.a 3) 4, .at (.or (.eq (.a 4) (.c 1)) (.or (.eq (.a 4) (.c 2)) (.or (.eq (.a 4) (.c 4)) (.or (.eq (.a 4) (.c 8)) .ff)))) true, .le (.a 3) 15, .ge (.a 3) 0, .is (.a 2) 5, .ne (.a 2) 0, .le (.a 1) 15, .ge (.a 1) 0, .is (.a 0) 5, .ne (.a 0) 8, .ne (.a 0) 0, .at (.or (.eq (.a 6) (.c 0)) (.or (.eq (.a 6) (.c 1)) (.or (.eq (.a 6) (.c 2)) (.or (.eq (.a 6) (.c 4)) (.or (.eq (.a 6) (.c 8)) (.or (.eq (.a 6) (.c 16)) (.or (.eq (.a 6) (.c 32)) .ff))))))) true, .le (.a 5) 2147483647, .ge (.a 5) (-2147483648)]) : MemJ val :=
  leafM h [(.a 2), (.a 3), (.a 0), (.a 1), (.a 4), (.a 5), (.a 6), (.c 0)] rfl (by kernel_rfl)

theorem memJ_28 (val : Nat → Int) (h : Holds val [.ne (.a 4) 1, .is (.a 3) 4, .at (.or (.eq (.a 4) (.c 1)) (.or (.eq (.a 4) (.c 2)) (.or (.eq (.a 4) (.c 4)) (.or (.eq (.a 4) (.c 8)) .ff)))) true, .le (.a 3) 15, .ge (.a 3) 0, .is (.a 2) 5, .ne (.a 2) 0, .le (.a 1) 15, .ge (.a 1) 0, .is (.a 0) 5, .ne (.a 0) 8, .ne (.a 0) 0, .at (.or (.eq (.a 6) (.c 0)) (.or (.eq (.a 6) (.c 1)) (.or (.eq (.a 6) (.c 2)) (.or (.eq (.a 6) (.c 4)) (.or (.eq (.a 6) (.c 8)) (.or (.eq (.a 6) (.c 16)) (.or (.eq (.a 6) (.c 32)) .ff))))))) true, .le (.a 5) 2147483647, .ge (.a 5) (-2147483648)]) : MemJ val :=
  leafM h [(.c 0), (.c 0), (.c 0), (.c 0), (.c 0), (.c 0), (.c 0), (.c 2)] rfl (by kernel_rfl)

theorem memJ_29 (val : Nat → Int) (h : Holds val [.is (.a 4) 1, .ne (.a 3) 4, .at (.or (.eq (.a 4) (.c 1)) (.or (.eq (.a 4) (.c 2)) (.or (.eq (.a 4) (.c 4)) (.or (.eq (.a 4) (.c 8)) .ff)))) true, .le (.a 3) 15, .ge (.a 3) 0, .is (.a 2) 5, .ne (.a 2) 0, .le (.a 1) 15, .ge (.a 1) 0, .is (.a 0) 5, .ne (.a 0) 8, .ne (.a 0) 0, .at (.or (.eq (.a 6) (.c 0)) (.or (.eq (.a 6) (.c 1)) (.or (.eq (.a 6) (.c 2)) (.or (.eq (.a 6) (.c 4)) (.or (.eq (.a 6) (.c 8)) (.or (.eq (.a 6) (.c 16)) (.or (.eq (.a 6) (.c 32)) .ff))))))) true, .le (.a 5) 2147483647, .ge (.a 5) (-2147483648)]) : MemJ val :=
  leafM h [(.a 0), (.a 1), (.a 2), (.a 3), (.a 4), (.a 5), (.a 6), (.c 0)] rfl (by kernel_rfl)

theorem memJ_30 (val : Nat → Int) (h : Holds val [.ne (.a 4) 1, .ne (.a 3) 4, .at (.or (.eq (.a 4) (.c 1)) (.or (.eq (.a 4) (.c 2)) (.or (.eq (.a 4) (.c 4)) (.or (.eq (.a 4) (.c 8)) .ff)))) true, .le (.a 3) 15, .ge (.a 3) 0, .is (.a 2) 5, .ne (.a 2) 0, .le (.a 1) 15, .ge (.a 1) 0, .is (.a 0) 5, .ne (.a 0) 8, .ne (.a 0) 0, .at (.or (.eq (.a 6) (.c 0)) (.or (.eq (.a 6) (.c 1)) (.or (.eq (.a 6) (.c 2)) (.or (.eq (.a 6) (.c 4)) (.or (.eq (.a 6) (.c 8)) (.or (.eq (.a 6) (.c 16)) (.or (.eq (.a 6) (.c 32)) .ff))))))) true, .le (.a 5) 2147483647, .ge (.a 5) (-2147483648)]) : MemJ val :=
  leafM h [(.a 0), (.a 1), (.a 2), (.a 3), (.a 4), (.a 5), (.a 6), (.c 0)] rfl (by kernel_rfl)

theorem memJ_31 (val : Nat → Int) (h : Holds val [.at (.or (.eq (.a 4) (.c 1)) (.or (.eq (.a 4) (.c 2)) (.or (.eq (.a 4) (.c 4)) (.or (.eq (.a 4) (.c 8)) .ff)))) false, .le (.a 3) 15, .ge (.a 3) 0, .is (.a 2) 5, .ne (.a 2) 0, .le (.a 1) 15, .ge (.a 1) 0, .is (.a 0) 5, .ne (.a 0) 8, .ne (.a 0) 0, .at (.or (.eq (.a 6) (.c 0)) (.or (.eq (.a 6) (.c 1)) (.or (.eq (.a 6) (.c 2)) (.or (.eq (.a 6) (.c 4)) (.or (.eq (.a 6) (.c 8)) (.or (.eq (.a 6) (.c 16)) (.or (.eq (.a 6) (.c 32)) .ff))))))) true, .le (.a 5) 2147483647, .ge (.a 5) (-2147483648)]) : MemJ val :=
  leafM h [(.c 0), (.c 0), (.c 0), (.c 0), (.c 0), (.c 0), (.c 0), (.c 2)] rfl (by kernel_rfl)

theorem memJ_32 (val : Nat → Int) (h : Holds val [.ge (.a 3) 16, .ge (.a 3) 0, .is (.a 2) 5, .ne (.a 2) 0, .le (.a 1) 15, .ge (.a 1) 0, .is (.a 0) 5, .ne (.a 0) 8, .ne (.a 0) 0, .at (.or (.eq (.a 6) (.c 0)) (.or (.eq (.a 6) (.c 1)) (.or (.eq (.a 6) (.c 2)) (.or (.eq (.a 6) (.c 4)) (.or (.eq (.a 6) (.c 8)) (.or (.eq (.a 6) (.c 16)) (.or (.eq (.a 6) (.c 32)) .ff))))))) true, .le (.a 5) 2147483647, .ge (.a 5) (-2147483648)]) : MemJ val :=
  leafM h [(.c 0), (.c 0), (.c 0), (.c 0), (.c 0), (.c 0), (.c 0), (.c 2)] rfl (by kernel_rfl)

theorem memJ_33 (val : Nat → Int) (h : Holds val [.le (.a 3) (-1), .is (.a 2) 5, .ne (.a 2) 0, .le (.a 1) 15, .ge (.a 1) 0, .is (.a 0) 5, .ne (.a 0) 8, .ne (.a 0) 0, .at (.or (.eq (.a 6) (.c 0)) (.or (.eq (.a 6) (.c 1)) (.or (.eq (.a 6) (.c 2)) (.or (.eq (.a 6) (.c 4)) (.or (.eq (.a 6) (.c 8)) (.or (.eq (.a 6) (.c 16)) (.or (.eq (.a 6) (.c 32)) .ff))))))) true, .le (.a 5) 2147483647, .ge (.a 5) (-2147483648)]) : MemJ val :=
  leafM h [(.c 0), (.c 0), (.c 0), (.c 0), (.c 0), (.c 0), (.c 0), (.c 2)] rfl (by kernel_rfl)

theorem memJ_34 (val : Nat → Int) (h : Holds val [.ne (.a 2) 5, .ne (.a 2) 0, .le (.a 1) 15, .ge (.a 1) 0, .is (.a 0) 5, .ne (.a 0) 8, .ne (.a 0) 0, .at (.or (.eq (.a 6) (.c 0)) (.or (.eq (.a 6) (.c 1)) (.or (.eq (.a 6) (.c 2)) (.or (.eq (.a 6) (.c 4)) (.or (.eq (.a 6) (.c 8)) (.or (.eq (.a 6) (.c 16)) (.or (.eq (.a 6) (.c 32)) .ff))))))) true, .le (.a 5) 2147483647, .ge (.a 5) (-2147483648)]) : MemJ val :=
  leafM h [(.c 0), (.c 0), (.c 0), (.c 0), (.c 0), (.c 0), (.c 0), (.c 2)] rfl (by kernel_rfl)

theorem memJ_35 (val : Nat → Int) (h : Holds val [.ge (.a 1) 16, .ge (.a 1) 0, .is (.a 0) 5, .ne (.a 0) 8, .ne (.a 0) 0, .at (.or (.eq (.a 6) (.c 0)) (.or (.eq (.a 6) (.c 1)) (.or (.eq (.a 6) (.c 2)) (.or (.eq (.a 6) (.c 4)) (.or (.eq (.a 6) (.c 8)) (.or (.eq (.a 6) (.c 16)) (.or (.eq (.a 6) (.c 32)) .ff))))))) true, .le (.a 5) 2147483647, .ge (.a 5) (-2147483648)]) : MemJ val :=
  leafM h [(.c 0), (.c 0), (.c 0), (.c 0), (.c 0), (.c 0), (.c 0), (.c 2)] rfl (by kernel_rfl)

theorem memJ_36 (val : Nat → Int) (h : Holds val [.le (.a 1) (-1), .is (.a 0) 5, .ne (.a 0) 8, .ne (.a 0) 0, .at (.or (.eq (.a 6) (.c 0)) (.or (.eq (.a 6) (.c 1)) (.or (.eq (.a 6) (.c 2)) (.or (.eq (.a 6) (.c 4)) (.or (.eq (.a 6) (.c 8)) (.or (.eq (.a 6) (.c 16)) (.or (.eq (.a 6) (.c 32)) .ff))))))) true, .le (.a 5) 2147483647, .ge (.a 5) (-2147483648)]) : MemJ val :=
  leafM h [(.c 0), (.c 0), (.c 0), (.c 0), (.c 0), (.c 0), (.c 0), (.c 2)] rfl (by kernel_rfl)

theorem memJ_37 (val : Nat → Int) (h : Holds val [.ne (.a 0) 5, .ne (.a 0) 8, .ne (.a 0) 0, .at (.or (.eq (.a 6) (.c 0)) (.or (.eq (.a 6) (.c 1)) (.or (.eq (.a 6) (.c 2)) (.or (.eq (.a 6) (.c 4)) (.or (.eq (.a 6) (.c 8)) (.or (.eq (.a 6) (.c 16)) (.or (.eq (.a 6) (.c 32)) .ff))))))) true, .le (.a 5) 2147483647, .ge (.a 5) (-2147483648)]) : MemJ val :=
  leafM h [(.c 0), (.c 0), (.c 0), (.c 0), (.c 0), (.c 0), (.c 0), (.c 2)] rfl (by kernel_rfl)

theorem memJ_38 (val : Nat → Int) (h : Holds val [.at (.or (.eq (.a 6) (.c 0)) (.or (.eq (.a 6) (.c 1)) (.or (.eq (.a 6) (.c 2)) (.or (.eq (.a 6) (.c 4)) (.or (.eq (.a 6) (.c 8)) (.or (.eq (.a 6) (.c 16)) (.or (.eq (.a 6) (.c 32)) .ff))))))) false, .le (.a 5) 2147483647, .ge (.a 5) (-2147483648)]) : MemJ val :=
  leafM h [(.c 0), (.c 0), (.c 0), (.c 0), (.c 0), (.c 0), (.c 0), (.c 2)] rfl (by kernel_rfl)

theorem memJSub6 (val : Nat → Int) (h : Holds val [.ge (.a 1) 0, .is (.a 0) 5, .ne (.a 0) 8, .ne (.a 0) 0, .at (.or (.eq (.a 6) (.c 0)) (.or (.eq (.a 6) (.c 1)) (.or (.eq (.a 6) (.c 2)) (.or (.eq (.a 6) (.c 4)) (.or (.eq (.a 6) (.c 8)) (.or (.eq (.a 6) (.c 16)) (.or (.eq (.a 6) (.c 32)) .ff))))))) true, .le (.a 5) 2147483647, .ge (.a 5) (-2147483648)]) : MemJ val :=
  by_way (.lt (.a 1) (.c 16)) (.le (.a 1) 15) (.ge (.a 1) 16) (by kernel_rfl) (by kernel_rfl) h
  (fun h => by_way (.eq (.a 2) (.c 0)) (.is (.a 2) 0) (.ne (.a 2) 0) (by kernel_rfl) (by kernel_rfl) h
  (fun h => by_way (.eq (.a 3) (.c 0)) (.is (.a 3) 0) (.ne (.a 3) 0) (by kernel_rfl) (by kernel_rfl) h
  (fun h => by_way (.eq (.a 4) (.c 0)) (.is (.a 4) 0) (.ne (.a 4) 0) (by kernel_rfl) (by kernel_rfl) h
  (fun h => memJ_23 val h)
  (fun h => memJ_24 val h))
  (fun h => memJ_25 val h))
  (fun h => by_way (.eq (.a 2) (.c 5)) (.is (.a 2) 5) (.ne (.a 2) 5) (by kernel_rfl) (by kernel_rfl) h
  (fun h => by_way (.le (.c 0) (.a 3)) (.ge (.a 3) 0) (.le (.a 3) (-1)) (by kernel_rfl) (by kernel_rfl) h
  (fun h => by_way (.lt (.a 3) (.c 16)) (.le (.a 3) 15) (.ge (.a 3) 16) (by kernel_rfl) (by kernel_rfl) h
  (fun h => by_way (.or (.eq (.a 4) (.c 1)) (.or (.eq (.a 4) (.c 2)) (.or (.eq (.a 4) (.c 4)) (.or (.eq (.a 4) (.c 8)) .ff)))) (.at (.or (.eq (.a 4) (.c 1)) (.or (.eq (.a 4) (.c 2)) (.or (.eq (.a 4) (.c 4)) (.or (.eq (.a 4) (.c 8)) .ff)))) true) (.at (.or (.eq (.a 4) (.c 1)) (.or (.eq (.a 4) (.c 2)) (.or (.eq (.a 4) (.c 4)) (.or (.eq (.a 4) (.c 8)) .ff)))) false) (by kernel_rfl) (by kernel_rfl) h
  (fun h => by_way (.eq (.a 3) (.c 4)) (.is (.a 3) 4) (.ne (.a 3) 4) (by kernel_rfl) (by kernel_rfl) h
  (fun h => by_way (.eq (.a 4) (.c 1)) (.is (.a 4) 1) (.ne (.a 4) 1) (by kernel_rfl) (by kernel_rfl) h
  (fun h => by_way (.eq (.a 1) (.c 4)) (.is (.a 1) 4) (.ne (.a 1) 4) (by kernel_rfl) (by kernel_rfl) h
  (fun h => memJ_26 val h)
  (fun h => memJ_27 val h))
  (fun h => memJ_28 val h))
  (fun h => by_way (.eq (.a 4) (.c 1)) (.is (.a 4) 1) (.ne (.a 4) 1) (by kernel_rfl) (by kernel_rfl) h
  (fun h => memJ_29 val h)
  (fun h => memJ_30 val h)))
  (fun h => memJ_31 val h))
  (fun h => memJ_32 val h))
  (fun h => memJ_33 val h))
  (fun h => memJ_34 val h)))
  (fun h => memJ_35 val h)

theorem memJSub5 (val : Nat → Int) (h : Holds val [.is (.a 0) 5, .ne (.a 0) 8, .ne (.a 0) 0, .at (.or (.eq (.a 6) (.c 0)) (.or (.eq (.a 6) (.c 1)) (.or (.eq (.a 6) (.c 2)) (.or (.eq (.a 6) (.c 4)) (.or (.eq (.a 6) (.c 8)) (.or (.eq (.a 6) (.c 16)) (.or (.eq (.a 6) (.c 32)) .ff))))))) true, .le (.a 5) 2147483647, .ge (.a 5) (-2147483648)]) : MemJ val :=
  by_way (.le (.c 0) (.a 1)) (.ge (.a 1) 0) (.le (.a 1) (-1)) (by kernel_rfl) (by kernel_rfl) h
  (fun h => memJSub6 val h)
  (fun h => memJ_36 val h)

theorem memJSub4 (val : Nat → Int) (h : Holds val [.ne (.a 0) 8, .ne (.a 0) 0, .at (.or (.eq (.a 6) (.c 0)) (.or (.eq (.a 6) (.c 1)) (.or (.eq (.a 6) (.c 2)) (.or (.eq (.a 6) (.c 4)) (.or (.eq (.a 6) (.c 8)) (.or (.eq (.a 6) (.c 16)) (.or (.eq (.a 6) (.c 32)) .ff))))))) true, .le (.a 5) 2147483647, .ge (.a 5) (-2147483648)]) : MemJ val :=
  by_way (.eq (.a 0) (.c 5)) (.is (.a 0) 5) (.ne (.a 0) 5) (by kernel_rfl) (by kernel_rfl) h
  (fun h => memJSub5 val h)
  (fun h => memJ_37 val h)

theorem memJSub3 (val : Nat → Int) (h : Holds val [.ne (.a 0) 0, .at (.or (.eq (.a 6) (.c 0)) (.or (.eq (.a 6) (.c 1)) (.or (.eq (.a 6) (.c 2)) (.or (.eq (.a 6) (.c 4)) (.or (.eq (.a 6) (.c 8)) (.or (.eq (.a 6) (.c 16)) (.or (.eq (.a 6) (.c 32)) .ff))))))) true, .le (.a 5) 2147483647, .ge (.a 5) (-2147483648)]) : MemJ val :=
  by_way (.eq (.a 0) (.c 8)) (.is (.a 0) 8) (.ne (.a 0) 8) (by kernel_rfl) (by kernel_rfl) h
  (fun h => by_way (.eq (.a 1) (.c 0)) (.is (.a 1) 0) (.ne (.a 1) 0) (by kernel_rfl) (by kernel_rfl) h
  (fun h => by_way (.eq (.a 2) (.c 0)) (.is (.a 2) 0) (.ne (.a 2) 0) (by kernel_rfl) (by kernel_rfl) h
  (fun h => by_way (.eq (.a 3) (.c 0)) (.is (.a 3) 0) (.ne (.a 3) 0) (by kernel_rfl) (by kernel_rfl) h
  (fun h => by_way (.eq (.a 4) (.c 0)) (.is (.a 4) 0) (.ne (.a 4) 0) (by kernel_rfl) (by kernel_rfl) h
  (fun h => memJ_14 val h)
  (fun h => memJ_15 val h))
  (fun h => memJ_16 val h))
  (fun h => by_way (.eq (.a 2) (.c 5)) (.is (.a 2) 5) (.ne (.a 2) 5) (by kernel_rfl) (by kernel_rfl) h
  (fun h => by_way (.le (.c 0) (.a 3)) (.ge (.a 3) 0) (.le (.a 3) (-1)) (by kernel_rfl) (by kernel_rfl) h
  (fun h => by_way (.lt (.a 3) (.c 16)) (.le (.a 3) 15) (.ge (.a 3) 16) (by kernel_rfl) (by kernel_rfl) h
  (fun h => by_way (.or (.eq (.a 4) (.c 1)) (.or (.eq (.a 4) (.c 2)) (.or (.eq (.a 4) (.c 4)) (.or (.eq (.a 4) (.c 8)) .ff)))) (.at (.or (.eq (.a 4) (.c 1)) (.or (.eq (.a 4) (.c 2)) (.or (.eq (.a 4) (.c 4)) (.or (.eq (.a 4) (.c 8)) .ff)))) true) (.at (.or (.eq (.a 4) (.c 1)) (.or (.eq (.a 4) (.c 2)) (.or (.eq (.a 4) (.c 4)) (.or (.eq (.a 4) (.c 8)) .ff)))) false) (by kernel_rfl) (by kernel_rfl) h
  (fun h => memJ_17 val h)
  (fun h => memJ_18 val h))
  (fun h => memJ_19 val h))
  (fun h => memJ_20 val h))
  (fun h => memJ_21 val h)))
  (fun h => memJ_22 val h))
  (fun h => memJSub4 val h)

theorem memJSub2 (val : Nat → Int) (h : Holds val [.at (.or (.eq (.a 6) (.c 0)) (.or (.eq (.a 6) (.c 1)) (.or (.eq (.a 6) (.c 2)) (.or (.eq (.a 6) (.c 4)) (.or (.eq (.a 6) (.c 8)) (.or (.eq (.a 6) (.c 16)) (.or (.eq (.a 6) (.c 32)) .ff))))))) true, .le (.a 5) 2147483647, .ge (.a 5) (-2147483648)]) : MemJ val :=
  by_way (.eq (.a 0) (.c 0)) (.is (.a 0) 0) (.ne (.a 0) 0) (by kernel_rfl) (by kernel_rfl) h
  (fun h => by_way (.eq (.a 1) (.c 0)) (.is (.a 1) 0) (.ne (.a 1) 0) (by kernel_rfl) (by kernel_rfl) h
  (fun h => by_way (.eq (.a 2) (.c 0)) (.is (.a 2) 0) (.ne (.a 2) 0) (by kernel_rfl) (by kernel_rfl) h
  (fun h => by_way (.eq (.a 3) (.c 0)) (.is (.a 3) 0) (.ne (.a 3) 0) (by kernel_rfl) (by kernel_rfl) h
  (fun h => by_way (.eq (.a 4) (.c 0)) (.is (.a 4) 0) (.ne (.a 4) 0) (by kernel_rfl) (by kernel_rfl) h
  (fun h => memJ_2 val h)
  (fun h => memJ_3 val h))
  (fun h => memJ_4 val h))
  (fun h => by_way (.eq (.a 2) (.c 5)) (.is (.a 2) 5) (.ne (.a 2) 5) (by kernel_rfl) (by kernel_rfl) h
  (fun h => by_way (.le (.c 0) (.a 3)) (.ge (.a 3) 0) (.le (.a 3) (-1)) (by kernel_rfl) (by kernel_rfl) h
  (fun h => by_way (.lt (.a 3) (.c 16)) (.le (.a 3) 15) (.ge (.a 3) 16) (by kernel_rfl) (by kernel_rfl) h
  (fun h => by_way (.or (.eq (.a 4) (.c 1)) (.or (.eq (.a 4) (.c 2)) (.or (.eq (.a 4) (.c 4)) (.or (.eq (.a 4) (.c 8)) .ff)))) (.at (.or (.eq (.a 4) (.c 1)) (.or (.eq (.a 4) (.c 2)) (.or (.eq (.a 4) (.c 4)) (.or (.eq (.a 4) (.c 8)) .ff)))) true) (.at (.or (.eq (.a 4) (.c 1)) (.or (.eq (.a 4) (.c 2)) (.or (.eq (.a 4) (.c 4)) (.or (.eq (.a 4) (.c 8)) .ff)))) false) (by kernel_rfl) (by kernel_rfl) h
  (fun h => by_way (.eq (.a 3) (.c 4)) (.is (.a 3) 4) (.ne (.a 3) 4) (by kernel_rfl) (by kernel_rfl) h
  (fun h => by_way (.eq (.a 4) (.c 1)) (.is (.a 4) 1) (.ne (.a 4) 1) (by kernel_rfl) (by kernel_rfl) h
  (fun h => memJ_5 val h)
  (fun h => memJ_6 val h))
  (fun h => by_way (.eq (.a 4) (.c 1)) (.is (.a 4) 1) (.ne (.a 4) 1) (by kernel_rfl) (by kernel_rfl) h
  (fun h => memJ_7 val h)
  (fun h => memJ_8 val h)))
  (fun h => memJ_9 val h))
  (fun h => memJ_10 val h))
  (fun h => memJ_11 val h))
  (fun h => memJ_12 val h)))
  (fun h => memJ_13 val h))
  (fun h => memJSub3 val h)

theorem memJSub1 (val : Nat → Int) (h : Holds val [.le (.a 5) 2147483647, .ge (.a 5) (-2147483648)]) : MemJ val :=
  by_way (.or (.eq (.a 6) (.c 0)) (.or (.eq (.a 6) (.c 1)) (.or (.eq (.a 6) (.c 2)) (.or (.eq (.a 6) (.c 4)) (.or (.eq (.a 6) (.c 8)) (.or (.eq (.a 6) (.c 16)) (.or (.eq (.a 6) (.c 32)) .ff))))))) (.at (.or (.eq (.a 6) (.c 0)) (.or (.eq (.a 6) (.c 1)) (.or (.eq (.a 6) (.c 2)) (.or (.eq (.a 6) (.c 4)) (.or (.eq (.a 6) (.c 8)) (.or (.eq (.a 6) (.c 16)) (.or (.eq (.a 6) (.c 32)) .ff))))))) true) (.at (.or (.eq (.a 6) (.c 0)) (.or (.eq (.a 6) (.c 1)) (.or (.eq (.a 6) (.c 2)) (.or (.eq (.a 6) (.c 4)) (.or (.eq (.a 6) (.c 8)) (.or (.eq (.a 6) (.c 16)) (.or (.eq (.a 6) (.c 32)) .ff))))))) false) (by kernel_rfl) (by kernel_rfl) h
  (fun h => memJSub2 val h)
  (fun h => memJ_38 val h)

theorem memJSub0 (val : Nat → Int) (h : Holds val [.ge (.a 5) (-2147483648)]) : MemJ val :=
  by_way (.lt (.c 2147483647) (.a 5)) (.ge (.a 5) 2147483648) (.le (.a 5) 2147483647) (by kernel_rfl) (by kernel_rfl) h
  (fun h => memJ_1 val h)
  (fun h => memJSub1 val h)

theorem memJ (val : Nat → Int) : MemJ val :=
  have h : Holds val [] := holds_nil
  by_way (.lt (.a 5) (.c (-2147483648))) (.le (.a 5) (-2147483649)) (.ge (.a 5) (-2147483648)) (by kernel_rfl) (by kernel_rfl) h
  (fun h => memJ_0 val h)
  (fun h => memJSub0 val h)

end Go.Proofs.Ytlegmdfceifkcaa.Tab
