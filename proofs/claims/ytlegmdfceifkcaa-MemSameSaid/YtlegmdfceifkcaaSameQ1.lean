/-
  Ways through the code, part 1.
-/
import Derived.Test.YtlegmdfceifkcaaSameB
namespace Go.Proofs.Ytlegmdfceifkcaa.Tab
open Go.Sim
set_option maxRecDepth 100000

theorem memP_0 (val : Nat → Int) (h : Holds val [.le (.a 5) (-2147483649)]) : MemP val :=
  leafMP h [(.c 0), (.c 0), (.c 0), (.c 0), (.c 0), (.c 0), (.c 0), (.c 5)] rfl (by kernel_rfl) (by kernel_rfl)

theorem memP_1 (val : Nat → Int) (h : Holds val [.ge (.a 5) 2147483648, .ge (.a 5) (-2147483648)]) : MemP val :=
  leafMP h [(.c 0), (.c 0), (.c 0), (.c 0), (.c 0), (.c 0), (.c 0), (.c 5)] rfl (by kernel_rfl) (by kernel_rfl)

theorem memP_2 (val : Nat → Int) (h : Holds val [.is (.a 4) 0, .is (.a 3) 0, .is (.a 2) 0, .is (.a 1) 0, .is (.a 0) 0, .at (.or (.eq (.a 6) (.c 0)) (.or (.eq (.a 6) (.c 1)) (.or (.eq (.a 6) (.c 2)) (.or (.eq (.a 6) (.c 4)) (.or (.eq (.a 6) (.c 8)) (.or (.eq (.a 6) (.c 16)) (.or (.eq (.a 6) (.c 32)) .ff))))))) true, .le (.a 5) 2147483647, .ge (.a 5) (-2147483648)]) : MemP val :=
  leafMP h [(.a 0), (.a 1), (.a 2), (.a 3), (.a 4), (.a 5), (.a 6), (.c 0)] rfl (by kernel_rfl) (by kernel_rfl)

theorem memP_3 (val : Nat → Int) (h : Holds val [.ne (.a 4) 0, .is (.a 3) 0, .is (.a 2) 0, .is (.a 1) 0, .is (.a 0) 0, .at (.or (.eq (.a 6) (.c 0)) (.or (.eq (.a 6) (.c 1)) (.or (.eq (.a 6) (.c 2)) (.or (.eq (.a 6) (.c 4)) (.or (.eq (.a 6) (.c 8)) (.or (.eq (.a 6) (.c 16)) (.or (.eq (.a 6) (.c 32)) .ff))))))) true, .le (.a 5) 2147483647, .ge (.a 5) (-2147483648)]) : MemP val :=
  leafMP h [(.c 0), (.c 0), (.c 0), (.c 0), (.c 0), (.c 0), (.c 0), (.c 2)] rfl (by kernel_rfl) (by kernel_rfl)

theorem memP_4 (val : Nat → Int) (h : Holds val [.ne (.a 3) 0, .is (.a 2) 0, .is (.a 1) 0, .is (.a 0) 0, .at (.or (.eq (.a 6) (.c 0)) (.or (.eq (.a 6) (.c 1)) (.or (.eq (.a 6) (.c 2)) (.or (.eq (.a 6) (.c 4)) (.or (.eq (.a 6) (.c 8)) (.or (.eq (.a 6) (.c 16)) (.or (.eq (.a 6) (.c 32)) .ff))))))) true, .le (.a 5) 2147483647, .ge (.a 5) (-2147483648)]) : MemP val :=
  leafMP h [(.c 0), (.c 0), (.c 0), (.c 0), (.c 0), (.c 0), (.c 0), (.c 2)] rfl (by kernel_rfl) (by kernel_rfl)

theorem memP_5 (val : Nat → Int) (h : Holds val [.is (.a 4) 1, .is (.a 3) 4, .at (.or (.eq (.a 4) (.c 1)) (.or (.eq (.a 4) (.c 2)) (.or (.eq (.a 4) (.c 4)) (.or (.eq (.a 4) (.c 8)) .ff)))) true, .le (.a 3) 15, .ge (.a 3) 0, .is (.a 2) 5, .ne (.a 2) 0, .is (.a 1) 0, .is (.a 0) 0, .at (.or (.eq (.a 6) (.c 0)) (.or (.eq (.a 6) (.c 1)) (.or (.eq (.a 6) (.c 2)) (.or (.eq (.a 6) (.c 4)) (.or (.eq (.a 6) (.c 8)) (.or (.eq (.a 6) (.c 16)) (.or (.eq (.a 6) (.c 32)) .ff))))))) true, .le (.a 5) 2147483647, .ge (.a 5) (-2147483648)]) : MemP val :=
  leafMP h [(.a 2), (.a 3), (.c 0), (.c 0), (.c 0), (.a 5), (.a 6), (.c 0)] rfl (by kernel_rfl) (by kernel_rfl)

theorem memP_6 (val : Nat → Int) (h : Holds val [.ne (.a 4) 1, .is (.a 3) 4, .at (.or (.eq (.a 4) (.c 1)) (.or (.eq (.a 4) (.c 2)) (.or (.eq (.a 4) (.c 4)) (.or (.eq (.a 4) (.c 8)) .ff)))) true, .le (.a 3) 15, .ge (.a 3) 0, .is (.a 2) 5, .ne (.a 2) 0, .is (.a 1) 0, .is (.a 0) 0, .at (.or (.eq (.a 6) (.c 0)) (.or (.eq (.a 6) (.c 1)) (.or (.eq (.a 6) (.c 2)) (.or (.eq (.a 6) (.c 4)) (.or (.eq (.a 6) (.c 8)) (.or (.eq (.a 6) (.c 16)) (.or (.eq (.a 6) (.c 32)) .ff))))))) true, .le (.a 5) 2147483647, .ge (.a 5) (-2147483648)]) : MemP val :=
  leafMP h [(.c 0), (.c 0), (.c 0), (.c 0), (.c 0), (.c 0), (.c 0), (.c 2)] rfl (by kernel_rfl) (by kernel_rfl)

theorem memP_7 (val : Nat → Int) (h : Holds val [.is (.a 4) 1, .ne (.a 3) 4, .at (.or (.eq (.a 4) (.c 1)) (.or (.eq (.a 4) (.c 2)) (.or (.eq (.a 4) (.c 4)) (.or (.eq (.a 4) (.c 8)) .ff)))) true, .le (.a 3) 15, .ge (.a 3) 0, .is (.a 2) 5, .ne (.a 2) 0, .is (.a 1) 0, .is (.a 0) 0, .at (.or (.eq (.a 6) (.c 0)) (.or (.eq (.a 6) (.c 1)) (.or (.eq (.a 6) (.c 2)) (.or (.eq (.a 6) (.c 4)) (.or (.eq (.a 6) (.c 8)) (.or (.eq (.a 6) (.c 16)) (.or (.eq (.a 6) (.c 32)) .ff))))))) true, .le (.a 5) 2147483647, .ge (.a 5) (-2147483648)]) : MemP val :=
  leafMP h [(.a 2), (.a 3), (.c 0), (.c 0), (.c 0), (.a 5), (.a 6), (.c 0)] rfl (by kernel_rfl) (by kernel_rfl)

theorem memP_8 (val : Nat → Int) (h : Holds val [.ne (.a 4) 1, .ne (.a 3) 4, .at (.or (.eq (.a 4) (.c 1)) (.or (.eq (.a 4) (.c 2)) (.or (.eq (.a 4) (.c 4)) (.or (.eq (.a 4) (.c 8)) .ff)))) true, .le (.a 3) 15, .ge (.a 3) 0, .is (.a 2) 5, .ne (.a 2) 0, .is (.a 1) 0, .is (.a 0) 0, .at (.or (.eq (.a 6) (.c 0)) (.or (.eq (.a 6) (.c 1)) (.or (.eq (.a 6) (.c 2)) (.or (.eq (.a 6) (.c 4)) (.or (.eq (.a 6) (.c 8)) (.or (.eq (.a 6) (.c 16)) (.or (.eq (.a 6) (.c 32)) .ff))))))) true, .le (.a 5) 2147483647, .ge (.a 5) (-2147483648)]) : MemP val :=
  leafMP h [(.a 0), (.a 1), (.a 2), (.a 3), (.a 4), (.a 5), (.a 6), (.c 0)] rfl (by kernel_rfl) (by kernel_rfl)

theorem memP_9 (val : Nat → Int) (h : Holds val [.at (.or (.eq (.a 4) (.c 1)) (.or (.eq (.a 4) (.c 2)) (.or (.eq (.a 4) (.c 4)) (.or (.eq (.a 4) (.c 8)) .ff)))) false, .le (.a 3) 15, .ge (.a 3) 0, .is (.a 2) 5, .ne (.a 2) 0, .is (.a 1) 0, .is (.a 0) 0, .at (.or (.eq (.a 6) (.c 0)) (.or (.eq (.a 6) (.c 1)) (.or (.eq (.a 6) (.c 2)) (.or (.eq (.a 6) (.c 4)) (.or (.eq (.a 6) (.c 8)) (.or (.eq (.a 6) (.c 16)) (.or (.eq (.a 6) (.c 32)) .ff))))))) true, .le (.a 5) 2147483647, .ge (.a 5) (-2147483648)]) : MemP val :=
  leafMP h [(.c 0), (.c 0), (.c 0), (.c 0), (.c 0), (.c 0), (.c 0), (.c 2)] rfl (by kernel_rfl) (by kernel_rfl)

theorem memP_10 (val : Nat → Int) (h : Holds val [.ge (.a 3) 16, .ge (.a 3) 0, .is (.a 2) 5, .ne (.a 2) 0, .is (.a 1) 0, .is (.a 0) 0, .at (.or (.eq (.a 6) (.c 0)) (.or (.eq (.a 6) (.c 1)) (.or (.eq (.a 6) (.c 2)) (.or (.eq (.a 6) (.c 4)) (.or (.eq (.a 6) (.c 8)) (.or (.eq (.a 6) (.c 16)) (.or (.eq (.a 6) (.c 32)) .ff))))))) true, .le (.a 5) 2147483647, .ge (.a 5) (-2147483648)]) : MemP val :=
  leafMP h [(.c 0), (.c 0), (.c 0), (.c 0), (.c 0), (.c 0), (.c 0), (.c 2)] rfl (by kernel_rfl) (by kernel_rfl)

theorem memP_11 (val : Nat → Int) (h : Holds val [.le (.a 3) (-1), .is (.a 2) 5, .ne (.a 2) 0, .is (.a 1) 0, .is (.a 0) 0, .at (.or (.eq (.a 6) (.c 0)) (.or (.eq (.a 6) (.c 1)) (.or (.eq (.a 6) (.c 2)) (.or (.eq (.a 6) (.c 4)) (.or (.eq (.a 6) (.c 8)) (.or (.eq (.a 6) (.c 16)) (.or (.eq (.a 6) (.c 32)) .ff))))))) true, .le (.a 5) 2147483647, .ge (.a 5) (-2147483648)]) : MemP val :=
  leafMP h [(.c 0), (.c 0), (.c 0), (.c 0), (.c 0), (.c 0), (.c 0), (.c 2)] rfl (by kernel_rfl) (by kernel_rfl)

theorem memP_12 (val : Nat → Int) (h : Holds val [.ne (.a 2) 5, .ne (.a 2) 0, .is (.a 1) 0, .is (.a 0) 0, .at (.or (.eq (.a 6) (.c 0)) (.or (.eq (.a 6) (.c 1)) (.or (.eq (.a 6) (.c 2)) (.or (.eq (.a 6) (.c 4)) (.or (.eq (.a 6) (.c 8)) (.or (.eq (.a 6) (.c 16)) (.or (.eq (.a 6) (.c 32)) .ff))))))) true, .le (.a 5) 2147483647, .ge (.a 5) (-2147483648)]) : MemP val :=
  leafMP h [(.c 0), (.c 0), (.c 0), (.c 0), (.c 0), (.c 0), (.c 0), (.c 2)] rfl (by kernel_rfl) (by kernel_rfl)

theorem memP_13 (val : Nat → Int) (h : Holds val [.ne (.a 1) 0, .is (.a 0) 0, .at (.or (.eq (.a 6) (.c 0)) (.or (.eq (.a 6) (.c 1)) (.or (.eq (.a 6) (.c 2)) (.or (.eq (.a 6) (.c 4)) (.or (.eq (.a 6) (.c 8)) (.or (.eq (.a 6) (.c 16)) (.or (.eq (.a 6) (.c 32)) .ff))))))) true, .le (.a 5) 2147483647, .ge (.a 5) (-2147483648)]) : MemP val :=
  leafMP h [(.c 0), (.c 0), (.c 0), (.c 0), (.c 0), (.c 0), (.c 0), (.c 2)] rfl (by kernel_rfl) (by kernel_rfl)

theorem memP_14 (val : Nat → Int) (h : Holds val [.is (.a 4) 0, .is (.a 3) 0, .is (.a 2) 0, .is (.a 1) 0, .is (.a 0) 8, .ne (.a 0) 0, .at (.or (.eq (.a 6) (.c 0)) (.or (.eq (.a 6) (.c 1)) (.or (.eq (.a 6) (.c 2)) (.or (.eq (.a 6) (.c 4)) (.or (.eq (.a 6) (.c 8)) (.or (.eq (.a 6) (.c 16)) (.or (.eq (.a 6) (.c 32)) .ff))))))) true, .le (.a 5) 2147483647, .ge (.a 5) (-2147483648)]) : MemP val :=
  leafMP h [(.a 0), (.a 1), (.a 2), (.a 3), (.a 4), (.a 5), (.a 6), (.c 0)] rfl (by kernel_rfl) (by kernel_rfl)

theorem memP_15 (val : Nat → Int) (h : Holds val [.ne (.a 4) 0, .is (.a 3) 0, .is (.a 2) 0, .is (.a 1) 0, .is (.a 0) 8, .ne (.a 0) 0, .at (.or (.eq (.a 6) (.c 0)) (.or (.eq (.a 6) (.c 1)) (.or (.eq (.a 6) (.c 2)) (.or (.eq (.a 6) (.c 4)) (.or (.eq (.a 6) (.c 8)) (.or (.eq (.a 6) (.c 16)) (.or (.eq (.a 6) (.c 32)) .ff))))))) true, .le (.a 5) 2147483647, .ge (.a 5) (-2147483648)]) : MemP val :=
  leafMP h [(.c 0), (.c 0), (.c 0), (.c 0), (.c 0), (.c 0), (.c 0), (.c 2)] rfl (by kernel_rfl) (by kernel_rfl)

theorem memP_16 (val : Nat → Int) (h : Holds val [.ne (.a 3) 0, .is (.a 2) 0, .is (.a 1) 0, .is (.a 0) 8, .ne (.a 0) 0, .at (.or (.eq (.a 6) (.c 0)) (.or (.eq (.a 6) (.c 1)) (.or (.eq (.a 6) (.c 2)) (.or (.eq (.a 6) (.c 4)) (.or (.eq (.a 6) (.c 8)) (.or (.eq (.a 6) (.c 16)) (.or (.eq (.a 6) (.c 32)) .ff))))))) true, .le (.a 5) 2147483647, .ge (.a 5) (-2147483648)]) : MemP val :=
  leafMP h [(.c 0), (.c 0), (.c 0), (.c 0), (.c 0), (.c 0), (.c 0), (.c 2)] rfl (by kernel_rfl) (by kernel_rfl)

theorem memP_17 (val : Nat → Int) (h : Holds val [.at (.or (.eq (.a 4) (.c 1)) (.or (.eq (.a 4) (.c 2)) (.or (.eq (.a 4) (.c 4)) (.or (.eq (.a 4) (.c 8)) .ff)))) true, .le (.a 3) 15, .ge (.a 3) 0, .is (.a 2) 5, .ne (.a 2) 0, .is (.a 1) 0, .is (.a 0) 8, .ne (.a 0) 0, .at (.or (.eq (.a 6) (.c 0)) (.or (.eq (.a 6) (.c 1)) (.or (.eq (.a 6) (.c 2)) (.or (.eq (.a 6) (.c 4)) (.or (.eq (.a 6) (.c 8)) (.or (.eq (.a 6) (.c 16)) (.or (.eq (.a 6) (.c 32)) .ff))))))) true, .le (.a 5) 2147483647, .ge (.a 5) (-2147483648)]) : MemP val :=
  leafMP h [(.c 0), (.c 0), (.c 0), (.c 0), (.c 0), (.c 0), (.c 0), (.c 2)] rfl (by kernel_rfl) (by kernel_rfl)

theorem memP_18 (val : Nat → Int) (h : Holds val [.at (.or (.eq (.a 4) (.c 1)) (.or (.eq (.a 4) (.c 2)) (.or (.eq (.a 4) (.c 4)) (.or (.eq (.a 4) (.c 8)) .ff)))) false, .le (.a 3) 15, .ge (.a 3) 0, .is (.a 2) 5, .ne (.a 2) 0, .is (.a 1) 0, .is (.a 0) 8, .ne (.a 0) 0, .at (.or (.eq (.a 6) (.c 0)) (.or (.eq (.a 6) (.c 1)) (.or (.eq (.a 6) (.c 2)) (.or (.eq (.a 6) (.c 4)) (.or (.eq (.a 6) (.c 8)) (.or (.eq (.a 6) (.c 16)) (.or (.eq (.a 6) (.c 32)) .ff))))))) true, .le (.a 5) 2147483647, .ge (.a 5) (-2147483648)]) : MemP val :=
  leafMP h [(.c 0), (.c 0), (.c 0), (.c 0), (.c 0), (.c 0), (.c 0), (.c 2)] rfl (by kernel_rfl) (by kernel_rfl)

theorem memP_19 (val : Nat → Int) (h : Holds val [.ge (.a 3) 16, .ge (.a 3) 0, .is (.a 2) 5, .ne (.a 2) 0, .is (.a 1) 0, .is (.a 0) 8, .ne (.a 0) 0, .at (.or (.eq (.a 6) (.c 0)) (.or (.eq (.a 6) (.c 1)) (.or (.eq (.a 6) (.c 2)) (.or (.eq (.a 6) (.c 4)) (.or (.eq (.a 6) (.c 8)) (.or (.eq (.a 6) (.c 16)) (.or (.eq (.a 6) (.c 32)) .ff))))))) true, .le (.a 5) 2147483647, .ge (.a 5) (-2147483648)]) : MemP val :=
  leafMP h [(.c 0), (.c 0), (.c 0), (.c 0), (.c 0), (.c 0), (.c 0), (.c 2)] rfl (by kernel_rfl) (by kernel_rfl)

theorem memP_20 (val : Nat → Int) (h : Holds val [.le (.a 3) (-1), .is (.a 2) 5, .ne (.a 2) 0, .is (.a 1) 0, .is (.a 0) 8, .ne (.a 0) 0, .at (.or (.eq (.a 6) (.c 0)) (.or (.eq (.a 6) (.c 1)) (.or (.eq (.a 6) (.c 2)) (.or (.eq (.a 6) (.c 4)) (.or (.eq (.a 6) (.c 8)) (.or (.eq (.a 6) (.c 16)) (.or (.eq (.a 6) (.c 32)) .ff))))))) true, .le (.a 5) 2147483647, .ge (.a 5) (-2147483648)]) : MemP val :=
  leafMP h [(.c 0), (.c 0), (.c 0), (.c 0), (.c 0), (.c 0), (.c 0), (.c 2)] rfl (by kernel_rfl) (by kernel_rfl)

theorem memP_21 (val : Nat → Int) (h : Holds val [.ne (.a 2) 5, .ne (.a 2) 0, .is (.a 1) 0, .is (.a 0) 8, .ne (.a 0) 0, .at (.or (.eq (.a 6) (.c 0)) (.or (.eq (.a 6) (.c 1)) (.or (.eq (.a 6) (.c 2)) (.or (.eq (.a 6) (.c 4)) (.or (.eq (.a 6) (.c 8)) (.or (.eq (.a 6) (.c 16)) (.or (.eq (.a 6) (.c 32)) .ff))))))) true, .le (.a 5) 2147483647, .ge (.a 5) (-2147483648)]) : MemP val :=
  leafMP h [(.c 0), (.c 0), (.c 0), (.c 0), (.c 0), (.c 0), (.c 0), (.c 2)] rfl (by kernel_rfl) (by kernel_rfl)

theorem memP_22 (val : Nat → Int) (h : Holds val [.ne (.a 1) 0, .is (.a 0) 8, .ne (.a 0) 0, .at (.or (.eq (.a 6) (.c 0)) (.or (.eq (.a 6) (.c 1)) (.or (.eq (.a 6) (.c 2)) (.or (.eq (.a 6) (.c 4)) (.or (.eq (.a 6) (.c 8)) (.or (.eq (.a 6) (.c 16)) (.or (.eq (.a 6) (.c 32)) .ff))))))) true, .le (.a 5) 2147483647, .ge (.a 5) (-2147483648)]) : MemP val :=
  leafMP h [(.c 0), (.c 0), (.c 0), (.c 0), (.c 0), (.c 0), (.c 0), (.c 2)] rfl (by kernel_rfl) (by kernel_rfl)

theorem memP_23 (val : Nat → Int) (h : Holds val [.is (.a 4) 0, .is (.a 3) 0, .is (.a 2) 0, .le (.a 1) 15, .ge (.a 1) 0, .is (.a 0) 5, .ne (.a 0) 8, .ne (.a 0) 0, .at (.or (.eq (.a 6) (.c 0)) (.or (.eq (.a 6) (.c 1)) (.or (.eq (.a 6) (.c 2)) (.or (.eq (.a 6) (.c 4)) (.or (.eq (.a 6) (.c 8)) (.or (.eq (.a 6) (.c 16)) (.or (.eq (.a 6) (.c 32)) .ff))))))) true, .le (.a 5) 2147483647, .ge (.a 5) (-2147483648)]) : MemP val :=
  leafMP h [(.a 0), (.a 1), (.a 2), (.a 3), (.a 4), (.a 5), (.a 6), (.c 0)] rfl (by kernel_rfl) (by kernel_rfl)

theorem memP_24 (val : Nat → Int) (h : Holds val [.ne (.a 4) 0, .is (.a 3) 0, .is (.a 2) 0, .le (.a 1) 15, .ge (.a 1) 0, .is (.a 0) 5, .ne (.a 0) 8, .ne (.a 0) 0, .at (.or (.eq (.a 6) (.c 0)) (.or (.eq (.a 6) (.c 1)) (.or (.eq (.a 6) (.c 2)) (.or (.eq (.a 6) (.c 4)) (.or (.eq (.a 6) (.c 8)) (.or (.eq (.a 6) (.c 16)) (.or (.eq (.a 6) (.c 32)) .ff))))))) true, .le (.a 5) 2147483647, .ge (.a 5) (-2147483648)]) : MemP val :=
  leafMP h [(.c 0), (.c 0), (.c 0), (.c 0), (.c 0), (.c 0), (.c 0), (.c 2)] rfl (by kernel_rfl) (by kernel_rfl)

theorem memP_25 (val : Nat → Int) (h : Holds val [.ne (.a 3) 0, .is (.a 2) 0, .le (.a 1) 15, .ge (.a 1) 0, .is (.a 0) 5, .ne (.a 0) 8, .ne (.a 0) 0, .at (.or (.eq (.a 6) (.c 0)) (.or (.eq (.a 6) (.c 1)) (.or (.eq (.a 6) (.c 2)) (.or (.eq (.a 6) (.c 4)) (.or (.eq (.a 6) (.c 8)) (.or (.eq (.a 6) (.c 16)) (.or (.eq (.a 6) (.c 32)) .ff))))))) true, .le (.a 5) 2147483647, .ge (.a 5) (-2147483648)]) : MemP val :=
  leafMP h [(.c 0), (.c 0), (.c 0), (.c 0), (.c 0), (.c 0), (.c 0), (.c 2)] rfl (by kernel_rfl) (by kernel_rfl)

theorem memP_26 (val : Nat → Int) (h : Holds val [.is (.a 1) 4, .is (.a 4) 1, .is (.a 3) 4, .at (.or (.eq (.a 4) (.c 1)) (.or (.eq (.a 4) (.c 2)) (.or (.eq (.a 4) (.c 4)) (.or (.eq (.a 4) (.c 8)) .ff)))) true, .le (.a 3) 15, .ge (.a 3) 0, .is (.a 2) 5, .ne (.a 2) 0, .le (.a 1) 15, .ge (.a 1) 0, .is (.a 0) 5, .ne (.a 0) 8, .ne (.a 0) 0, .at (.or (.eq (.a 6) (.c 0)) (.or (.eq (.a 6) (.c 1)) (.or (.eq (.a 6) (.c 2)) (.or (.eq (.a 6) (.c 4)) (.or (.eq (.a 6) (.c 8)) (.or (.eq (.a 6) (.c 16)) (.or (.eq (.a 6) (.c 32)) .ff))))))) true, .le (.a 5) 2147483647, .ge (.a 5) (-2147483648)]) : MemP val :=
  leafMP h [(.c 0), (.c 0), (.c 0), (.c 0), (.c 0), (.c 0), (.c 0), (.c 2)] rfl (by kernel_rfl) (by kernel_rfl)

theorem memP_27 (val : Nat → Int) (h : Holds val [.ne (.a 1) 4, .is (.a 4) 1, .is (.a 3) 4, .at (.or (.eq (.a 4) (.c 1)) (.or (.eq (.a 4) (.c 2)) (.or (.eq (.a 4) (.c 4)) (.or (.eq (.a 4) (.c 8)) .ff)))) true, .le (.a 3) 15, .ge (.a 3) 0, .is (.a 2) 5, .ne (.a 2) 0, .le (.a 1) 15, .ge (.a 1) 0, .is (.a 0) 5, .ne (.a 0) 8, .ne (.a 0) 0, .at (.or (.eq (.a 6) (.c 0)) (.or (.eq (.a 6) (.c 1)) (.or (.eq (.a 6) (.c 2)) (.or (.eq (.a 6) (.c 4)) (.or (.eq (.a 6) (.c 8)) (.or (.eq (.a 6) (.c 16)) (.or (.eq (.a 6) (.c 32)) .ff))))))) true, .le (.a 5) 2147483647, .ge (.a 5) (-2147483648)]) : MemP val :=
  leafMP h [(.a 2), (.a 3), (.a 0), (.a 1), (.a 4), (.a 5), (.a 6), (.c 0)] rfl (by kernel_rfl) (by kernel_rfl)

theorem memP_28 (val : Nat → Int) (h : Holds val [.ne (.a 4) 1, .is (.a 3) 4, .at (.or (.eq (.a 4) (.c 1)) (.or (.eq (.a 4) (.c 2)) (.or (.eq (.a 4) (.c 4)) (.or (.eq (.a 4) (.c 8)) .ff)))) true, .le (.a 3) 15, .ge (.a 3) 0, .is (.a 2) 5, .ne (.a 2) 0, .le (.a 1) 15, .ge (.a 1) 0, .is (.a 0) 5, .ne (.a 0) 8, .ne (.a 0) 0, .at (.or (.eq (.a 6) (.c 0)) (.or (.eq (.a 6) (.c 1)) (.or (.eq (.a 6) (.c 2)) (.or (.eq (.a 6) (.c 4)) (.or (.eq (.a 6) (.c 8)) (.or (.eq (.a 6) (.c 16)) (.or (.eq (.a 6) (.c 32)) .ff))))))) true, .le (.a 5) 2147483647, .ge (.a 5) (-2147483648)]) : MemP val :=
  leafMP h [(.c 0), (.c 0), (.c 0), (.c 0), (.c 0), (.c 0), (.c 0), (.c 2)] rfl (by kernel_rfl) (by kernel_rfl)

theorem memP_29 (val : Nat → Int) (h : Holds val [.is (.a 4) 1, .ne (.a 3) 4, .at (.or (.eq (.a 4) (.c 1)) (.or (.eq (.a 4) (.c 2)) (.or (.eq (.a 4) (.c 4)) (.or (.eq (.a 4) (.c 8)) .ff)))) true, .le (.a 3) 15, .ge (.a 3) 0, .is (.a 2) 5, .ne (.a 2) 0, .le (.a 1) 15, .ge (.a 1) 0, .is (.a 0) 5, .ne (.a 0) 8, .ne (.a 0) 0, .at (.or (.eq (.a 6) (.c 0)) (.or (.eq (.a 6) (.c 1)) (.or (.eq (.a 6) (.c 2)) (.or (.eq (.a 6) (.c 4)) (.or (.eq (.a 6) (.c 8)) (.or (.eq (.a 6) (.c 16)) (.or (.eq (.a 6) (.c 32)) .ff))))))) true, .le (.a 5) 2147483647, .ge (.a 5) (-2147483648)]) : MemP val :=
  leafMP h [(.a 0), (.a 1), (.a 2), (.a 3), (.a 4), (.a 5), (.a 6), (.c 0)] rfl (by kernel_rfl) (by kernel_rfl)

theorem memP_30 (val : Nat → Int) (h : Holds val [.ne (.a 4) 1, .ne (.a 3) 4, .at (.or (.eq (.a 4) (.c 1)) (.or (.eq (.a 4) (.c 2)) (.or (.eq (.a 4) (.c 4)) (.or (.eq (.a 4) (.c 8)) .ff)))) true, .le (.a 3) 15, .ge (.a 3) 0, .is (.a 2) 5, .ne (.a 2) 0, .le (.a 1) 15, .ge (.a 1) 0, .is (.a 0) 5, .ne (.a 0) 8, .ne (.a 0) 0, .at (.or (.eq (.a 6) (.c 0)) (.or (.eq (.a 6) (.c 1)) (.or (.eq (.a 6) (.c 2)) (.or (.eq (.a 6) (.c 4)) (.or (.eq (.a 6) (.c 8)) (.or (.eq (.a 6) (.c 16)) (.or (.eq (.a 6) (.c 32)) .ff))))))) true, .le (.a 5) 2147483647, .ge (.a 5) (-2147483648)]) : MemP val :=
  leafMP h [(.a 0), (.a 1), (.a 2), (.a 3), (.a 4), (.a 5), (.a 6), (.c 0)] rfl (by kernel_rfl) (by kernel_rfl)

theorem memP_31 (val : Nat → Int) (h : Holds val [.at (.or (.eq (.a 4) (.c 1)) (.or (.eq (.a 4) (.c 2)) (.or (.eq (.a 4) (.c 4)) (.or (.eq (.a 4) (.c 8)) .ff)))) false, .le (.a 3) 15, .ge (.a 3) 0, .is (.a 2) 5, .ne (.a 2) 0, .le (.a 1) 15, .ge (.a 1) 0, .is (.a 0) 5, .ne (.a 0) 8, .ne (.a 0) 0, .at (.or (.eq (.a 6) (.c 0)) (.or (.eq (.a 6) (.c 1)) (.or (.eq (.a 6) (.c 2)) (.or (.eq (.a 6) (.c 4)) (.or (.eq (.a 6) (.c 8)) (.or (.eq (.a 6) (.c 16)) (.or (.eq (.a 6) (.c 32)) .ff))))))) true, .le (.a 5) 2147483647, .ge (.a 5) (-2147483648)]) : MemP val :=
  leafMP h [(.c 0), (.c 0), (.c 0), (.c 0), (.c 0), (.c 0), (.c 0), (.c 2)] rfl (by kernel_rfl) (by kernel_rfl)

theorem memP_32 (val : Nat → Int) (h : Holds val [.ge (.a 3) 16, .ge (.a 3) 0, .is (.a 2) 5, .ne (.a 2) 0, .le (.a 1) 15, .ge (.a 1) 0, .is (.a 0) 5, .ne (.a 0) 8, .ne (.a 0) 0, .at (.or (.eq (.a 6) (.c 0)) (.or (.eq (.a 6) (.c 1)) (.or (.eq (.a 6) (.c 2)) (.or (.eq (.a 6) (.c 4)) (.or (.eq (.a 6) (.c 8)) (.or (.eq (.a 6) (.c 16)) (.or (.eq (.a 6) (.c 32)) .ff))))))) true, .le (.a 5) 2147483647, .ge (.a 5) (-2147483648)]) : MemP val :=
  leafMP h [(.c 0), (.c 0), (.c 0), (.c 0), (.c 0), (.c 0), (.c 0), (.c 2)] rfl (by kernel_rfl) (by kernel_rfl)

theorem memP_33 (val : Nat → Int) (h : Holds val [.le (.a 3) (-1), .is (.a 2) 5, .ne (.a 2) 0, .le (.a 1) 15, .ge (.a 1) 0, .is (.a 0) 5, .ne (.a 0) 8, .ne (.a 0) 0, .at (.or (.eq (.a 6) (.c 0)) (.or (.eq (.a 6) (.c 1)) (.or (.eq (.a 6) (.c 2)) (.or (.eq (.a 6) (.c 4)) (.or (.eq (.a 6) (.c 8)) (.or (.eq (.a 6) (.c 16)) (.or (.eq (.a 6) (.c 32)) .ff))))))) true, .le (.a 5) 2147483647, .ge (.a 5) (-2147483648)]) : MemP val :=
  leafMP h [(.c 0), (.c 0), (.c 0), (.c 0), (.c 0), (.c 0), (.c 0), (.c 2)] rfl (by kernel_rfl) (by kernel_rfl)

theorem memP_34 (val : Nat → Int) (h : Holds val [.ne (.a 2) 5, .ne (.a 2) 0, .le (.a 1) 15, .ge (.a 1) 0, .is (.a 0) 5, .ne (.a 0) 8, .ne (.a 0) 0, .at (.or (.eq (.a 6) (.c 0)) (.or (.eq (.a 6) (.c 1)) (.or (.eq (.a 6) (.c 2)) (.or (.eq (.a 6) (.c 4)) (.or (.eq (.a 6) (.c 8)) (.or (.eq (.a 6) (.c 16)) (.or (.eq (.a 6) (.c 32)) .ff))))))) true, .le (.a 5) 2147483647, .ge (.a 5) (-2147483648)]) : MemP val :=
  leafMP h [(.c 0), (.c 0), (.c 0), (.c 0), (.c 0), (.c 0), (.c 0), (.c 2)] rfl (by kernel_rfl) (by kernel_rfl)

theorem memP_35 (val : Nat → Int) (h : Holds val [.ge (.a 1) 16, .ge (.a 1) 0, .is (.a 0) 5, .ne (.a 0) 8, .ne (.a 0) 0, .at (.or (.eq (.a 6) (.c 0)) (.or (.eq (.a 6) (.c 1)) (.or (.eq (.a 6) (.c 2)) (.or (.eq (.a 6) (.c 4)) (.or (.eq (.a 6) (.c 8)) (.or (.eq (.a 6) (.c 16)) (.or (.eq (.a 6) (.c 32)) .ff))))))) true, .le (.a 5) 2147483647, .ge (.a 5) (-2147483648)]) : MemP val :=
  leafMP h [(.c 0), (.c 0), (.c 0), (.c 0), (.c 0), (.c 0), (.c 0), (.c 2)] rfl (by kernel_rfl) (by kernel_rfl)

theorem memP_36 (val : Nat → Int) (h : Holds val [.le (.a 1) (-1), .is (.a 0) 5, .ne (.a 0) 8, .ne (.a 0) 0, .at (.or (.eq (.a 6) (.c 0)) (.or (.eq (.a 6) (.c 1)) (.or (.eq (.a 6) (.c 2)) (.or (.eq (.a 6) (.c 4)) (.or (.eq (.a 6) (.c 8)) (.or (.eq (.a 6) (.c 16)) (.or (.eq (.a 6) (.c 32)) .ff))))))) true, .le (.a 5) 2147483647, .ge (.a 5) (-2147483648)]) : MemP val :=
  leafMP h [(.c 0), (.c 0), (.c 0), (.c 0), (.c 0), (.c 0), (.c 0), (.c 2)] rfl (by kernel_rfl) (by kernel_rfl)

theorem memP_37 (val : Nat → Int) (h : Holds val [.ne (.a 0) 5, .ne (.a 0) 8, .ne (.a 0) 0, .at (.or (.eq (.a 6) (.c 0)) (.or (.eq (.a 6) (.c 1)) (.or (.eq (.a 6) (.c 2)) (.or (.eq (.a 6) (.c 4)) (.or (.eq (.a 6) (.c 8)) (.or (.eq (.a 6) (.c 16)) (.or (.eq (.a 6) (.c 32)) .ff))))))) true, .le (.a 5) 2147483647, .ge (.a 5) (-2147483648)]) : MemP val :=
  leafMP h [(.c 0), (.c 0), (.c 0), (.c 0), (.c 0), (.c 0), (.c 0), (.c 2)] rfl (by kernel_rfl) (by kernel_rfl)

theorem memP_38 (val : Nat → Int) (h : Holds val [.at (.or (.eq (.a 6) (.c 0)) (.or (.eq (.a 6) (.c 1)) (.or (.eq (.a 6) (.c 2)) (.or (.eq (.a 6) (.c 4)) (.or (.eq (.a 6) (.c 8)) (.or (.eq (.a 6) (.c 16)) (.or (.eq (.a 6) (.c 32)) .ff))))))) false, .le (.a 5) 2147483647, .ge (.a 5) (-2147483648)]) : MemP val :=
  leafMP h [(.c 0), (.c 0), (.c 0), (.c 0), (.c 0), (.c 0), (.c 0), (.c 2)] rfl (by kernel_rfl) (by kernel_rfl)

theorem memPSub6 (val : Nat → Int) (h : Holds val [.ge (.a 1) 0, .is (.a 0) 5, .ne (.a 0) 8, .ne (.a 0) 0, .at (.or (.eq (.a 6) (.c 0)) (.or (.eq (.a 6) (.c 1)) (.or (.eq (.a 6) (.c 2)) (.or (.eq (.a 6) (.c 4)) (.or (.eq (.a 6) (.c 8)) (.or (.eq (.a 6) (.c 16)) (.or (.eq (.a 6) (.c 32)) .ff))))))) true, .le (.a 5) 2147483647, .ge (.a 5) (-2147483648)]) : MemP val :=
  by_way (.lt (.a 1) (.c 16)) (.le (.a 1) 15) (.ge (.a 1) 16) (by kernel_rfl) (by kernel_rfl) h
  (fun h => by_way (.eq (.a 2) (.c 0)) (.is (.a 2) 0) (.ne (.a 2) 0) (by kernel_rfl) (by kernel_rfl) h
  (fun h => by_way (.eq (.a 3) (.c 0)) (.is (.a 3) 0) (.ne (.a 3) 0) (by kernel_rfl) (by kernel_rfl) h
  (fun h => by_way (.eq (.a 4) (.c 0)) (.is (.a 4) 0) (.ne (.a 4) 0) (by kernel_rfl) (by kernel_rfl) h
  (fun h => memP_23 val h)
  (fun h => memP_24 val h))
  (fun h => memP_25 val h))
  (fun h => by_way (.eq (.a 2) (.c 5)) (.is (.a 2) 5) (.ne (.a 2) 5) (by kernel_rfl) (by kernel_rfl) h
  (fun h => by_way (.le (.c 0) (.a 3)) (.ge (.a 3) 0) (.le (.a 3) (-1)) (by kernel_rfl) (by kernel_rfl) h
  (fun h => by_way (.lt (.a 3) (.c 16)) (.le (.a 3) 15) (.ge (.a 3) 16) (by kernel_rfl) (by kernel_rfl) h
  (fun h => by_way (.or (.eq (.a 4) (.c 1)) (.or (.eq (.a 4) (.c 2)) (.or (.eq (.a 4) (.c 4)) (.or (.eq (.a 4) (.c 8)) .ff)))) (.at (.or (.eq (.a 4) (.c 1)) (.or (.eq (.a 4) (.c 2)) (.or (.eq (.a 4) (.c 4)) (.or (.eq (.a 4) (.c 8)) .ff)))) true) (.at (.or (.eq (.a 4) (.c 1)) (.or (.eq (.a 4) (.c 2)) (.or (.eq (.a 4) (.c 4)) (.or (.eq (.a 4) (.c 8)) .ff)))) false) (by kernel_rfl) (by kernel_rfl) h
  (fun h => by_way (.eq (.a 3) (.c 4)) (.is (.a 3) 4) (.ne (.a 3) 4) (by kernel_rfl) (by kernel_rfl) h
  (fun h => by_way (.eq (.a 4) (.c 1)) (.is (.a 4) 1) (.ne (.a 4) 1) (by kernel_rfl) (by kernel_rfl) h
  (fun h => by_way (.eq (.a 1) (.c 4)) (.is (.a 1) 4) (.ne (.a 1) 4) (by kernel_rfl) (by kernel_rfl) h
  (fun h => memP_26 val h)
  (fun h => memP_27 val h))
  (fun h => memP_28 val h))
  (fun h => by_way (.eq (.a 4) (.c 1)) (.is (.a 4) 1) (.ne (.a 4) 1) (by kernel_rfl) (by kernel_rfl) h
  (fun h => memP_29 val h)
  (fun h => memP_30 val h)))
  (fun h => memP_31 val h))
  (fun h => memP_32 val h))
  (fun h => memP_33 val h))
  (fun h => memP_34 val h)))
  (fun h => memP_35 val h)

theorem memPSub5 (val : Nat → Int) (h : Holds val [.is (.a 0) 5, .ne (.a 0) 8, .ne (.a 0) 0, .at (.or (.eq (.a 6) (.c 0)) (.or (.eq (.a 6) (.c 1)) (.or (.eq (.a 6) (.c 2)) (.or (.eq (.a 6) (.c 4)) (.or (.eq (.a 6) (.c 8)) (.or (.eq (.a 6) (.c 16)) (.or (.eq (.a 6) (.c 32)) .ff))))))) true, .le (.a 5) 2147483647, .ge (.a 5) (-2147483648)]) : MemP val :=
  by_way (.le (.c 0) (.a 1)) (.ge (.a 1) 0) (.le (.a 1) (-1)) (by kernel_rfl) (by kernel_rfl) h
  (fun h => memPSub6 val h)
  (fun h => memP_36 val h)

theorem memPSub4 (val : Nat → Int) (h : Holds val [.ne (.a 0) 8, .ne (.a 0) 0, .at (.or (.eq (.a 6) (.c 0)) (.or (.eq (.a 6) (.c 1)) (.or (.eq (.a 6) (.c 2)) (.or (.eq (.a 6) (.c 4)) (.or (.eq (.a 6) (.c 8)) (.or (.eq (.a 6) (.c 16)) (.or (.eq (.a 6) (.c 32)) .ff))))))) true, .le (.a 5) 2147483647, .ge (.a 5) (-2147483648)]) : MemP val :=
  by_way (.eq (.a 0) (.c 5)) (.is (.a 0) 5) (.ne (.a 0) 5) (by kernel_rfl) (by kernel_rfl) h
  (fun h => memPSub5 val h)
  (fun h => memP_37 val h)

theorem memPSub3 (val : Nat → Int) (h : Holds val [.ne (.a 0) 0, .at (.or (.eq (.a 6) (.c 0)) (.or (.eq (.a 6) (.c 1)) (.or (.eq (.a 6) (.c 2)) (.or (.eq (.a 6) (.c 4)) (.or (.eq (.a 6) (.c 8)) (.or (.eq (.a 6) (.c 16)) (.or (.eq (.a 6) (.c 32)) .ff))))))) true, .le (.a 5) 2147483647, .ge (.a 5) (-2147483648)]) : MemP val :=
  by_way (.eq (.a 0) (.c 8)) (.is (.a 0) 8) (.ne (.a 0) 8) (by kernel_rfl) (by kernel_rfl) h
  (fun h => by_way (.eq (.a 1) (.c 0)) (.is (.a 1) 0) (.ne (.a 1) 0) (by kernel_rfl) (by kernel_rfl) h
  (fun h => by_way (.eq (.a 2) (.c 0)) (.is (.a 2) 0) (.ne (.a 2) 0) (by kernel_rfl) (by kernel_rfl) h
  (fun h => by_way (.eq (.a 3) (.c 0)) (.is (.a 3) 0) (.ne (.a 3) 0) (by kernel_rfl) (by kernel_rfl) h
  (fun h => by_way (.eq (.a 4) (.c 0)) (.is (.a 4) 0) (.ne (.a 4) 0) (by kernel_rfl) (by kernel_rfl) h
  (fun h => memP_14 val h)
  (fun h => memP_15 val h))
  (fun h => memP_16 val h))
  (fun h => by_way (.eq (.a 2) (.c 5)) (.is (.a 2) 5) (.ne (.a 2) 5) (by kernel_rfl) (by kernel_rfl) h
  (fun h => by_way (.le (.c 0) (.a 3)) (.ge (.a 3) 0) (.le (.a 3) (-1)) (by kernel_rfl) (by kernel_rfl) h
  (fun h => by_way (.lt (.a 3) (.c 16)) (.le (.a 3) 15) (.ge (.a 3) 16) (by kernel_rfl) (by kernel_rfl) h
  (fun h => by_way (.or (.eq (.a 4) (.c 1)) (.or (.eq (.a 4) (.c 2)) (.or (.eq (.a 4) (.c 4)) (.or (.eq (.a 4) (.c 8)) .ff)))) (.at (.or (.eq (.a 4) (.c 1)) (.or (.eq (.a 4) (.c 2)) (.or (.eq (.a 4) (.c 4)) (.or (.eq (.a 4) (.c 8)) .ff)))) true) (.at (.or (.eq (.a 4) (.c 1)) (.or (.eq (.a 4) (.c 2)) (.or (.eq (.a 4) (.c 4)) (.or (.eq (.a 4) (.c 8)) .ff)))) false) (by kernel_rfl) (by kernel_rfl) h
  (fun h => memP_17 val h)
  (fun h => memP_18 val h))
  (fun h => memP_19 val h))
  (fun h => memP_20 val h))
  (fun h => memP_21 val h)))
  (fun h => memP_22 val h))
  (fun h => memPSub4 val h)

theorem memPSub2 (val : Nat → Int) (h : Holds val [.at (.or (.eq (.a 6) (.c 0)) (.or (.eq (.a 6) (.c 1)) (.or (.eq (.a 6) (.c 2)) (.or (.eq (.a 6) (.c 4)) (.or (.eq (.a 6) (.c 8)) (.or (.eq (.a 6) (.c 16)) (.or (.eq (.a 6) (.c 32)) .ff))))))) true, .le (.a 5) 2147483647, .ge (.a 5) (-2147483648)]) : MemP val :=
  by_way (.eq (.a 0) (.c 0)) (.is (.a 0) 0) (.ne (.a 0) 0) (by kernel_rfl) (by kernel_rfl) h
  (fun h => by_way (.eq (.a 1) (.c 0)) (.is (.a 1) 0) (.ne (.a 1) 0) (by kernel_rfl) (by kernel_rfl) h
  (fun h => by_way (.eq (.a 2) (.c 0)) (.is (.a 2) 0) (.ne (.a 2) 0) (by kernel_rfl) (by kernel_rfl) h
  (fun h => by_way (.eq (.a 3) (.c 0)) (.is (.a 3) 0) (.ne (.a 3) 0) (by kernel_rfl) (by kernel_rfl) h
  (fun h => by_way (.eq (.a 4) (.c 0)) (.is (.a 4) 0) (.ne (.a 4) 0) (by kernel_rfl) (by kernel_rfl) h
  (fun h => memP_2 val h)
  (fun h => memP_3 val h))
  (fun h => memP_4 val h))
  (fun h => by_way (.eq (.a 2) (.c 5)) (.is (.a 2) 5) (.ne (.a 2) 5) (by kernel_rfl) (by kernel_rfl) h
  (fun h => by_way (.le (.c 0) (.a 3)) (.ge (.a 3) 0) (.le (.a 3) (-1)) (by kernel_rfl) (by kernel_rfl) h
  (fun h => by_way (.lt (.a 3) (.c 16)) (.le (.a 3) 15) (.ge (.a 3) 16) (by kernel_rfl) (by kernel_rfl) h
  (fun h => by_way (.or (.eq (.a 4) (.c 1)) (.or (.eq (.a 4) (.c 2)) (.or (.eq (.a 4) (.c 4)) (.or (.eq (.a 4) (.c 8)) .ff)))) (.at (.or (.eq (.a 4) (.c 1)) (.or (.eq (.a 4) (.c 2)) (.or (.eq (.a 4) (.c 4)) (.or (.eq (.a 4) (.c 8)) .ff)))) true) (.at (.or (.eq (.a 4) (.c 1)) (.or (.eq (.a 4) (.c 2)) (.or (.eq (.a 4) (.c 4)) (.or (.eq (.a 4) (.c 8)) .ff)))) false) (by kernel_rfl) (by kernel_rfl) h
  (fun h => by_way (.eq (.a 3) (.c 4)) (.is (.a 3) 4) (.ne (.a 3) 4) (by kernel_rfl) (by kernel_rfl) h
  (fun h => by_way (.eq (.a 4) (.c 1)) (.is (.a 4) 1) (.ne (.a 4) 1) (by kernel_rfl) (by kernel_rfl) h
  (fun h => memP_5 val h)
  (fun h => memP_6 val h))
  (fun h => by_way (.eq (.a 4) (.c 1)) (.is (.a 4) 1) (.ne (.a 4) 1) (by kernel_rfl) (by kernel_rfl) h
  (fun h => memP_7 val h)
  (fun h => memP_8 val h)))
  (fun h => memP_9 val h))
  (fun h => memP_10 val h))
  (fun h => memP_11 val h))
  (fun h => memP_12 val h)))
  (fun h => memP_13 val h))
  (fun h => memPSub3 val h)

theorem memPSub1 (val : Nat → Int) (h : Holds val [.le (.a 5) 2147483647, .ge (.a 5) (-2147483648)]) : MemP val :=
  by_way (.or (.eq (.a 6) (.c 0)) (.or (.eq (.a 6) (.c 1)) (.or (.eq (.a 6) (.c 2)) (.or (.eq (.a 6) (.c 4)) (.or (.eq (.a 6) (.c 8)) (.or (.eq (.a 6) (.c 16)) (.or (.eq (.a 6) (.c 32)) .ff))))))) (.at (.or (.eq (.a 6) (.c 0)) (.or (.eq (.a 6) (.c 1)) (.or (.eq (.a 6) (.c 2)) (.or (.eq (.a 6) (.c 4)) (.or (.eq (.a 6) (.c 8)) (.or (.eq (.a 6) (.c 16)) (.or (.eq (.a 6) (.c 32)) .ff))))))) true) (.at (.or (.eq (.a 6) (.c 0)) (.or (.eq (.a 6) (.c 1)) (.or (.eq (.a 6) (.c 2)) (.or (.eq (.a 6) (.c 4)) (.or (.eq (.a 6) (.c 8)) (.or (.eq (.a 6) (.c 16)) (.or (.eq (.a 6) (.c 32)) .ff))))))) false) (by kernel_rfl) (by kernel_rfl) h
  (fun h => memPSub2 val h)
  (fun h => memP_38 val h)

theorem memPSub0 (val : Nat → Int) (h : Holds val [.ge (.a 5) (-2147483648)]) : MemP val :=
  by_way (.lt (.c 2147483647) (.a 5)) (.ge (.a 5) 2147483648) (.le (.a 5) 2147483647) (by kernel_rfl) (by kernel_rfl) h
  (fun h => memP_1 val h)
  (fun h => memPSub1 val h)

theorem memP (val : Nat → Int) : MemP val :=
  have h : Holds val [] := holds_nil
  by_way (.lt (.a 5) (.c (-2147483648))) (.le (.a 5) (-2147483649)) (.ge (.a 5) (-2147483648)) (by kernel_rfl) (by kernel_rfl) h
  (fun h => memP_0 val h)
  (fun h => memPSub0 val h)

theorem sameLeb_0 (val : Nat → Int) (h : Holds val [.ge (.a 31) 21, .is (.a 47) 0, .ne (.a 57) 0, .ne (.a 31) 16, .ge (.a 31) 0]) : SameL tG val :=
  leafT' h (by kernel_rfl) (by kernel_rfl) (fun sla => by kernel_rfl)

theorem sameLeb_1 (val : Nat → Int) (h : Holds val [.le (.a 31) 20, .is (.a 47) 0, .ne (.a 57) 0, .ne (.a 31) 16, .ge (.a 31) 0]) : SameL tG val :=
  leafT' h (by kernel_rfl) (by kernel_rfl) (fun sla => by kernel_rfl)

theorem sameLeb_2 (val : Nat → Int) (h : Holds val [.ge (.a 31) 21, .ne (.a 47) 0, .ne (.a 57) 0, .ne (.a 31) 16, .ge (.a 31) 0]) : SameL tG val :=
  leafT' h (by kernel_rfl) (by kernel_rfl) (fun sla => by kernel_rfl)

theorem sameLeb_3 (val : Nat → Int) (h : Holds val [.le (.a 31) 20, .ne (.a 47) 0, .ne (.a 57) 0, .ne (.a 31) 16, .ge (.a 31) 0]) : SameL tG val :=
  leafT' h (by kernel_rfl) (by kernel_rfl) (fun sla => by kernel_rfl)


theorem sameLeb (val : Nat → Int) (h : Holds val [.ne (.a 57) 0, .ne (.a 31) 16, .ge (.a 31) 0]) : SameL tG val :=
  by_way (.eq (.a 47) (.c 0)) (.is (.a 47) 0) (.ne (.a 47) 0) (by kernel_rfl) (by kernel_rfl) h
  (fun h => by_way (.lt (.c 20) (.a 31)) (.ge (.a 31) 21) (.le (.a 31) 20) (by kernel_rfl) (by kernel_rfl) h
  (fun h => sameLeb_0 val h)
  (fun h => sameLeb_1 val h))
  (fun h => by_way (.lt (.c 20) (.a 31)) (.ge (.a 31) 21) (.le (.a 31) 20) (by kernel_rfl) (by kernel_rfl) h
  (fun h => sameLeb_2 val h)
  (fun h => sameLeb_3 val h))

theorem same16eb_0 (val : Nat → Int) (h : Holds val [.is (.a 47) 0, .ne (.a 57) 0, .ge (.a 30) 16]) : Same16 [] (tG ++ adG) val :=
  leafS h (by kernel_rfl) (by kernel_rfl) (by kernel_rfl) (by kernel_rfl) (by kernel_rfl)

theorem same16eb_1 (val : Nat → Int) (h : Holds val [.ne (.a 47) 0, .ne (.a 57) 0, .ge (.a 30) 16]) : Same16 [] (tG ++ adG) val :=
  leafS h (by kernel_rfl) (by kernel_rfl) (by kernel_rfl) (by kernel_rfl) (by kernel_rfl)


theorem same16eb (val : Nat → Int) (h : Holds val [.ne (.a 57) 0, .ge (.a 30) 16]) : Same16 [] (tG ++ adG) val :=
  by_way (.eq (.a 47) (.c 0)) (.is (.a 47) 0) (.ne (.a 47) 0) (by kernel_rfl) (by kernel_rfl) h
  (fun h => same16eb_0 val h)
  (fun h => same16eb_1 val h)

theorem sameLyes_0 (val : Nat → Int) (h : Holds val [.ge (.a 31) 21, .at (.and (.and (.eq (.a 40) (.a 50)) (.eq (.a 41) (.a 51))) (.and (.and (.eq (.a 42) (.a 52)) (.eq (.a 43) (.a 53))) (.and (.eq (.a 44) (.a 54)) (.and (.eq (.a 5) (.a 37)) (.eq (.a 6) (.a 38)))))) true, .at (.and (.and (.eq (.a 50) (.a 40)) (.eq (.a 51) (.a 41))) (.and (.and (.eq (.a 52) (.a 42)) (.eq (.a 53) (.a 43))) (.and (.eq (.a 54) (.a 44)) (.and (.eq (.a 37) (.a 5)) (.eq (.a 38) (.a 6)))))) true, .at (.eq (.a 5) (.a 37)) true, .at (.eq (.a 6) (.a 38)) true, .ne (.a 31) 16, .ge (.a 31) 0]) : SameL tO val :=
  leafT' h (by kernel_rfl) (by kernel_rfl) (fun sla => by kernel_rfl)

theorem sameLyes_1 (val : Nat → Int) (h : Holds val [.le (.a 31) 20, .at (.and (.and (.eq (.a 40) (.a 50)) (.eq (.a 41) (.a 51))) (.and (.and (.eq (.a 42) (.a 52)) (.eq (.a 43) (.a 53))) (.and (.eq (.a 44) (.a 54)) (.and (.eq (.a 5) (.a 37)) (.eq (.a 6) (.a 38)))))) true, .at (.and (.and (.eq (.a 50) (.a 40)) (.eq (.a 51) (.a 41))) (.and (.and (.eq (.a 52) (.a 42)) (.eq (.a 53) (.a 43))) (.and (.eq (.a 54) (.a 44)) (.and (.eq (.a 37) (.a 5)) (.eq (.a 38) (.a 6)))))) true, .at (.eq (.a 5) (.a 37)) true, .at (.eq (.a 6) (.a 38)) true, .ne (.a 31) 16, .ge (.a 31) 0]) : SameL tO val :=
  leafT' h (by kernel_rfl) (by kernel_rfl) (fun sla => by kernel_rfl)


theorem sameLyes (val : Nat → Int) (h : Holds val [.at (.and (.and (.eq (.a 40) (.a 50)) (.eq (.a 41) (.a 51))) (.and (.and (.eq (.a 42) (.a 52)) (.eq (.a 43) (.a 53))) (.and (.eq (.a 44) (.a 54)) (.and (.eq (.a 5) (.a 37)) (.eq (.a 6) (.a 38)))))) true, .at (.and (.and (.eq (.a 50) (.a 40)) (.eq (.a 51) (.a 41))) (.and (.and (.eq (.a 52) (.a 42)) (.eq (.a 53) (.a 43))) (.and (.eq (.a 54) (.a 44)) (.and (.eq (.a 37) (.a 5)) (.eq (.a 38) (.a 6)))))) true, .at (.eq (.a 5) (.a 37)) true, .at (.eq (.a 6) (.a 38)) true, .ne (.a 31) 16, .ge (.a 31) 0]) : SameL tO val :=
  by_way (.lt (.c 20) (.a 31)) (.ge (.a 31) 21) (.le (.a 31) 20) (by kernel_rfl) (by kernel_rfl) h
  (fun h => sameLyes_0 val h)
  (fun h => sameLyes_1 val h)

theorem same16yes_0 (val : Nat → Int) (h : Holds val [.at (.and (.and (.eq (.a 40) (.a 50)) (.eq (.a 41) (.a 51))) (.and (.and (.eq (.a 42) (.a 52)) (.eq (.a 43) (.a 53))) (.and (.eq (.a 44) (.a 54)) (.and (.eq (.a 5) (.a 37)) (.eq (.a 6) (.a 38)))))) true, .at (.and (.and (.eq (.a 50) (.a 40)) (.eq (.a 51) (.a 41))) (.and (.and (.eq (.a 52) (.a 42)) (.eq (.a 53) (.a 43))) (.and (.eq (.a 54) (.a 44)) (.and (.eq (.a 37) (.a 5)) (.eq (.a 38) (.a 6)))))) true, .at (.eq (.a 5) (.a 37)) true, .at (.eq (.a 6) (.a 38)) true, .ge (.a 30) 16]) : Same16 [] (tO ++ adS) val :=
  leafS h (by kernel_rfl) (by kernel_rfl) (by kernel_rfl) (by kernel_rfl) (by kernel_rfl)


theorem same16yes (val : Nat → Int) (h : Holds val [.at (.and (.and (.eq (.a 40) (.a 50)) (.eq (.a 41) (.a 51))) (.and (.and (.eq (.a 42) (.a 52)) (.eq (.a 43) (.a 53))) (.and (.eq (.a 44) (.a 54)) (.and (.eq (.a 5) (.a 37)) (.eq (.a 6) (.a 38)))))) true, .at (.and (.and (.eq (.a 50) (.a 40)) (.eq (.a 51) (.a 41))) (.and (.and (.eq (.a 52) (.a 42)) (.eq (.a 53) (.a 43))) (.and (.eq (.a 54) (.a 44)) (.and (.eq (.a 37) (.a 5)) (.eq (.a 38) (.a 6)))))) true, .at (.eq (.a 5) (.a 37)) true, .at (.eq (.a 6) (.a 38)) true, .ge (.a 30) 16]) : Same16 [] (tO ++ adS) val :=
  same16yes_0 val h

end Go.Proofs.Ytlegmdfceifkcaa.Tab
