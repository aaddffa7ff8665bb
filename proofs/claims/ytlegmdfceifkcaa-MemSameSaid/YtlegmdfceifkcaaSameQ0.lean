/-
  Ways through the code, part 0.
-/
import Derived.Test.YtlegmdfceifkcaaSameB
namespace Go.Proofs.Ytlegmdfceifkcaa.Tab
open Go.Sim
set_option maxRecDepth 100000

theorem sameJ_0 (val : Nat → Int) (h : Holds val [.le (.a 5) (-2147483649), .ge (.a 30) 16]) : SameJ val :=
  leafSJ h [(.c 0), (.c 0), (.c 0), (.c 0), (.c 0), (.c 0), (.c 0), (.c 5), (.c 0), (.c 5)] rfl (by kernel_rfl) (by kernel_rfl)

theorem sameJ_1 (val : Nat → Int) (h : Holds val [.ge (.a 5) 2147483648, .ge (.a 5) (-2147483648), .ge (.a 30) 16]) : SameJ val :=
  leafSJ h [(.c 0), (.c 0), (.c 0), (.c 0), (.c 0), (.c 0), (.c 0), (.c 5), (.c 0), (.c 5)] rfl (by kernel_rfl) (by kernel_rfl)

theorem sameJ_2 (val : Nat → Int) (h : Holds val [.is (.a 4) 0, .is (.a 3) 0, .is (.a 2) 0, .is (.a 1) 0, .is (.a 0) 0, .at (.or (.eq (.a 6) (.c 0)) (.or (.eq (.a 6) (.c 1)) (.or (.eq (.a 6) (.c 2)) (.or (.eq (.a 6) (.c 4)) (.or (.eq (.a 6) (.c 8)) (.or (.eq (.a 6) (.c 16)) (.or (.eq (.a 6) (.c 32)) .ff))))))) true, .le (.a 5) 2147483647, .ge (.a 5) (-2147483648), .ge (.a 30) 16]) : SameJ val :=
  leafSJ h [(.a 0), (.a 1), (.a 2), (.a 3), (.a 4), (.a 5), (.a 6), (.c 0), (.wrap .i64 (.add (.c 0) (.a 5))), (.c 0)] rfl (by kernel_rfl) (by kernel_rfl)

theorem sameJ_3 (val : Nat → Int) (h : Holds val [.ne (.a 4) 0, .is (.a 3) 0, .is (.a 2) 0, .is (.a 1) 0, .is (.a 0) 0, .at (.or (.eq (.a 6) (.c 0)) (.or (.eq (.a 6) (.c 1)) (.or (.eq (.a 6) (.c 2)) (.or (.eq (.a 6) (.c 4)) (.or (.eq (.a 6) (.c 8)) (.or (.eq (.a 6) (.c 16)) (.or (.eq (.a 6) (.c 32)) .ff))))))) true, .le (.a 5) 2147483647, .ge (.a 5) (-2147483648), .ge (.a 30) 16]) : SameJ val :=
  leafSJ h [(.c 0), (.c 0), (.c 0), (.c 0), (.c 0), (.c 0), (.c 0), (.c 2), (.c 0), (.c 2)] rfl (by kernel_rfl) (by kernel_rfl)

theorem sameJ_4 (val : Nat → Int) (h : Holds val [.ne (.a 3) 0, .is (.a 2) 0, .is (.a 1) 0, .is (.a 0) 0, .at (.or (.eq (.a 6) (.c 0)) (.or (.eq (.a 6) (.c 1)) (.or (.eq (.a 6) (.c 2)) (.or (.eq (.a 6) (.c 4)) (.or (.eq (.a 6) (.c 8)) (.or (.eq (.a 6) (.c 16)) (.or (.eq (.a 6) (.c 32)) .ff))))))) true, .le (.a 5) 2147483647, .ge (.a 5) (-2147483648), .ge (.a 30) 16]) : SameJ val :=
  leafSJ h [(.c 0), (.c 0), (.c 0), (.c 0), (.c 0), (.c 0), (.c 0), (.c 2), (.c 0), (.c 2)] rfl (by kernel_rfl) (by kernel_rfl)

theorem sameJ_5 (val : Nat → Int) (h : Holds val [.is (.a 4) 1, .is (.a 3) 4, .at (.or (.eq (.a 4) (.c 1)) (.or (.eq (.a 4) (.c 2)) (.or (.eq (.a 4) (.c 4)) (.or (.eq (.a 4) (.c 8)) .ff)))) true, .le (.a 3) 15, .ge (.a 3) 0, .is (.a 2) 5, .ne (.a 2) 0, .is (.a 1) 0, .is (.a 0) 0, .at (.or (.eq (.a 6) (.c 0)) (.or (.eq (.a 6) (.c 1)) (.or (.eq (.a 6) (.c 2)) (.or (.eq (.a 6) (.c 4)) (.or (.eq (.a 6) (.c 8)) (.or (.eq (.a 6) (.c 16)) (.or (.eq (.a 6) (.c 32)) .ff))))))) true, .le (.a 5) 2147483647, .ge (.a 5) (-2147483648), .ge (.a 30) 16]) : SameJ val :=
  leafSJ h [(.a 2), (.a 3), (.c 0), (.c 0), (.c 0), (.a 5), (.a 6), (.c 0), (.wrap .i64 (.add (.wrap .i64 (.add (.c 0) (.wrap .i64 (.mul (.c 1) (.a 12))))) (.a 5))), (.c 0)] rfl (by kernel_rfl) (by kernel_rfl)

theorem sameJ_6 (val : Nat → Int) (h : Holds val [.ne (.a 4) 1, .is (.a 3) 4, .at (.or (.eq (.a 4) (.c 1)) (.or (.eq (.a 4) (.c 2)) (.or (.eq (.a 4) (.c 4)) (.or (.eq (.a 4) (.c 8)) .ff)))) true, .le (.a 3) 15, .ge (.a 3) 0, .is (.a 2) 5, .ne (.a 2) 0, .is (.a 1) 0, .is (.a 0) 0, .at (.or (.eq (.a 6) (.c 0)) (.or (.eq (.a 6) (.c 1)) (.or (.eq (.a 6) (.c 2)) (.or (.eq (.a 6) (.c 4)) (.or (.eq (.a 6) (.c 8)) (.or (.eq (.a 6) (.c 16)) (.or (.eq (.a 6) (.c 32)) .ff))))))) true, .le (.a 5) 2147483647, .ge (.a 5) (-2147483648), .ge (.a 30) 16]) : SameJ val :=
  leafSJ h [(.c 0), (.c 0), (.c 0), (.c 0), (.c 0), (.c 0), (.c 0), (.c 2), (.c 0), (.c 2)] rfl (by kernel_rfl) (by kernel_rfl)

theorem sameJ_7 (val : Nat → Int) (h : Holds val [.is (.a 4) 1, .ne (.a 3) 4, .at (.or (.eq (.a 4) (.c 1)) (.or (.eq (.a 4) (.c 2)) (.or (.eq (.a 4) (.c 4)) (.or (.eq (.a 4) (.c 8)) .ff)))) true, .le (.a 3) 15, .ge (.a 3) 0, .is (.a 2) 5, .ne (.a 2) 0, .is (.a 1) 0, .is (.a 0) 0, .at (.or (.eq (.a 6) (.c 0)) (.or (.eq (.a 6) (.c 1)) (.or (.eq (.a 6) (.c 2)) (.or (.eq (.a 6) (.c 4)) (.or (.eq (.a 6) (.c 8)) (.or (.eq (.a 6) (.c 16)) (.or (.eq (.a 6) (.c 32)) .ff))))))) true, .le (.a 5) 2147483647, .ge (.a 5) (-2147483648), .ge (.a 30) 16]) : SameJ val :=
  leafSJ h [(.a 2), (.a 3), (.c 0), (.c 0), (.c 0), (.a 5), (.a 6), (.c 0), (.wrap .i64 (.add (.wrap .i64 (.add (.c 0) (.wrap .i64 (.mul (.c 1) (.at 8 (.a 3)))))) (.a 5))), (.c 0)] rfl (by kernel_rfl) (by kernel_rfl)

theorem sameJ_8 (val : Nat → Int) (h : Holds val [.ne (.a 4) 1, .ne (.a 3) 4, .at (.or (.eq (.a 4) (.c 1)) (.or (.eq (.a 4) (.c 2)) (.or (.eq (.a 4) (.c 4)) (.or (.eq (.a 4) (.c 8)) .ff)))) true, .le (.a 3) 15, .ge (.a 3) 0, .is (.a 2) 5, .ne (.a 2) 0, .is (.a 1) 0, .is (.a 0) 0, .at (.or (.eq (.a 6) (.c 0)) (.or (.eq (.a 6) (.c 1)) (.or (.eq (.a 6) (.c 2)) (.or (.eq (.a 6) (.c 4)) (.or (.eq (.a 6) (.c 8)) (.or (.eq (.a 6) (.c 16)) (.or (.eq (.a 6) (.c 32)) .ff))))))) true, .le (.a 5) 2147483647, .ge (.a 5) (-2147483648), .ge (.a 30) 16]) : SameJ val :=
  leafSJ h [(.a 0), (.a 1), (.a 2), (.a 3), (.a 4), (.a 5), (.a 6), (.c 0), (.wrap .i64 (.add (.wrap .i64 (.add (.c 0) (.wrap .i64 (.mul (.a 4) (.at 8 (.a 3)))))) (.a 5))), (.c 0)] rfl (by kernel_rfl) (by kernel_rfl)

theorem sameJ_9 (val : Nat → Int) (h : Holds val [.at (.or (.eq (.a 4) (.c 1)) (.or (.eq (.a 4) (.c 2)) (.or (.eq (.a 4) (.c 4)) (.or (.eq (.a 4) (.c 8)) .ff)))) false, .le (.a 3) 15, .ge (.a 3) 0, .is (.a 2) 5, .ne (.a 2) 0, .is (.a 1) 0, .is (.a 0) 0, .at (.or (.eq (.a 6) (.c 0)) (.or (.eq (.a 6) (.c 1)) (.or (.eq (.a 6) (.c 2)) (.or (.eq (.a 6) (.c 4)) (.or (.eq (.a 6) (.c 8)) (.or (.eq (.a 6) (.c 16)) (.or (.eq (.a 6) (.c 32)) .ff))))))) true, .le (.a 5) 2147483647, .ge (.a 5) (-2147483648), .ge (.a 30) 16]) : SameJ val :=
  leafSJ h [(.c 0), (.c 0), (.c 0), (.c 0), (.c 0), (.c 0), (.c 0), (.c 2), (.c 0), (.c 2)] rfl (by kernel_rfl) (by kernel_rfl)

theorem sameJ_10 (val : Nat → Int) (h : Holds val [.ge (.a 3) 16, .ge (.a 3) 0, .is (.a 2) 5, .ne (.a 2) 0, .is (.a 1) 0, .is (.a 0) 0, .at (.or (.eq (.a 6) (.c 0)) (.or (.eq (.a 6) (.c 1)) (.or (.eq (.a 6) (.c 2)) (.or (.eq (.a 6) (.c 4)) (.or (.eq (.a 6) (.c 8)) (.or (.eq (.a 6) (.c 16)) (.or (.eq (.a 6) (.c 32)) .ff))))))) true, .le (.a 5) 2147483647, .ge (.a 5) (-2147483648), .ge (.a 30) 16]) : SameJ val :=
  leafSJ h [(.c 0), (.c 0), (.c 0), (.c 0), (.c 0), (.c 0), (.c 0), (.c 2), (.c 0), (.c 2)] rfl (by kernel_rfl) (by kernel_rfl)

theorem sameJ_11 (val : Nat → Int) (h : Holds val [.le (.a 3) (-1), .is (.a 2) 5, .ne (.a 2) 0, .is (.a 1) 0, .is (.a 0) 0, .at (.or (.eq (.a 6) (.c 0)) (.or (.eq (.a 6) (.c 1)) (.or (.eq (.a 6) (.c 2)) (.or (.eq (.a 6) (.c 4)) (.or (.eq (.a 6) (.c 8)) (.or (.eq (.a 6) (.c 16)) (.or (.eq (.a 6) (.c 32)) .ff))))))) true, .le (.a 5) 2147483647, .ge (.a 5) (-2147483648), .ge (.a 30) 16]) : SameJ val :=
  leafSJ h [(.c 0), (.c 0), (.c 0), (.c 0), (.c 0), (.c 0), (.c 0), (.c 2), (.c 0), (.c 2)] rfl (by kernel_rfl) (by kernel_rfl)

theorem sameJ_12 (val : Nat → Int) (h : Holds val [.ne (.a 2) 5, .ne (.a 2) 0, .is (.a 1) 0, .is (.a 0) 0, .at (.or (.eq (.a 6) (.c 0)) (.or (.eq (.a 6) (.c 1)) (.or (.eq (.a 6) (.c 2)) (.or (.eq (.a 6) (.c 4)) (.or (.eq (.a 6) (.c 8)) (.or (.eq (.a 6) (.c 16)) (.or (.eq (.a 6) (.c 32)) .ff))))))) true, .le (.a 5) 2147483647, .ge (.a 5) (-2147483648), .ge (.a 30) 16]) : SameJ val :=
  leafSJ h [(.c 0), (.c 0), (.c 0), (.c 0), (.c 0), (.c 0), (.c 0), (.c 2), (.c 0), (.c 2)] rfl (by kernel_rfl) (by kernel_rfl)

theorem sameJ_13 (val : Nat → Int) (h : Holds val [.ne (.a 1) 0, .is (.a 0) 0, .at (.or (.eq (.a 6) (.c 0)) (.or (.eq (.a 6) (.c 1)) (.or (.eq (.a 6) (.c 2)) (.or (.eq (.a 6) (.c 4)) (.or (.eq (.a 6) (.c 8)) (.or (.eq (.a 6) (.c 16)) (.or (.eq (.a 6) (.c 32)) .ff))))))) true, .le (.a 5) 2147483647, .ge (.a 5) (-2147483648), .ge (.a 30) 16]) : SameJ val :=
  leafSJ h [(.c 0), (.c 0), (.c 0), (.c 0), (.c 0), (.c 0), (.c 0), (.c 2), (.c 0), (.c 2)] rfl (by kernel_rfl) (by kernel_rfl)

theorem sameJ_14 (val : Nat → Int) (h : Holds val [.is (.a 4) 0, .is (.a 3) 0, .is (.a 2) 0, .is (.a 1) 0, .is (.a 0) 8, .ne (.a 0) 0, .at (.or (.eq (.a 6) (.c 0)) (.or (.eq (.a 6) (.c 1)) (.or (.eq (.a 6) (.c 2)) (.or (.eq (.a 6) (.c 4)) (.or (.eq (.a 6) (.c 8)) (.or (.eq (.a 6) (.c 16)) (.or (.eq (.a 6) (.c 32)) .ff))))))) true, .le (.a 5) 2147483647, .ge (.a 5) (-2147483648), .ge (.a 30) 16]) : SameJ val :=
  leafSJ h [(.a 0), (.a 1), (.a 2), (.a 3), (.a 4), (.a 5), (.a 6), (.c 0), (.wrap .i64 (.add (.wrap .i64 (.add (.wrap .i64 (.add (.c 0) (.a 7))) (.c 0))) (.a 5))), (.c 0)] rfl (by kernel_rfl) (by kernel_rfl)

theorem sameJ_15 (val : Nat → Int) (h : Holds val [.ne (.a 4) 0, .is (.a 3) 0, .is (.a 2) 0, .is (.a 1) 0, .is (.a 0) 8, .ne (.a 0) 0, .at (.or (.eq (.a 6) (.c 0)) (.or (.eq (.a 6) (.c 1)) (.or (.eq (.a 6) (.c 2)) (.or (.eq (.a 6) (.c 4)) (.or (.eq (.a 6) (.c 8)) (.or (.eq (.a 6) (.c 16)) (.or (.eq (.a 6) (.c 32)) .ff))))))) true, .le (.a 5) 2147483647, .ge (.a 5) (-2147483648), .ge (.a 30) 16]) : SameJ val :=
  leafSJ h [(.c 0), (.c 0), (.c 0), (.c 0), (.c 0), (.c 0), (.c 0), (.c 2), (.c 0), (.c 2)] rfl (by kernel_rfl) (by kernel_rfl)

theorem sameJ_16 (val : Nat → Int) (h : Holds val [.ne (.a 3) 0, .is (.a 2) 0, .is (.a 1) 0, .is (.a 0) 8, .ne (.a 0) 0, .at (.or (.eq (.a 6) (.c 0)) (.or (.eq (.a 6) (.c 1)) (.or (.eq (.a 6) (.c 2)) (.or (.eq (.a 6) (.c 4)) (.or (.eq (.a 6) (.c 8)) (.or (.eq (.a 6) (.c 16)) (.or (.eq (.a 6) (.c 32)) .ff))))))) true, .le (.a 5) 2147483647, .ge (.a 5) (-2147483648), .ge (.a 30) 16]) : SameJ val :=
  leafSJ h [(.c 0), (.c 0), (.c 0), (.c 0), (.c 0), (.c 0), (.c 0), (.c 2), (.c 0), (.c 2)] rfl (by kernel_rfl) (by kernel_rfl)

theorem sameJ_17 (val : Nat → Int) (h : Holds val [.at (.or (.eq (.a 4) (.c 1)) (.or (.eq (.a 4) (.c 2)) (.or (.eq (.a 4) (.c 4)) (.or (.eq (.a 4) (.c 8)) .ff)))) true, .le (.a 3) 15, .ge (.a 3) 0, .is (.a 2) 5, .ne (.a 2) 0, .is (.a 1) 0, .is (.a 0) 8, .ne (.a 0) 0, .at (.or (.eq (.a 6) (.c 0)) (.or (.eq (.a 6) (.c 1)) (.or (.eq (.a 6) (.c 2)) (.or (.eq (.a 6) (.c 4)) (.or (.eq (.a 6) (.c 8)) (.or (.eq (.a 6) (.c 16)) (.or (.eq (.a 6) (.c 32)) .ff))))))) true, .le (.a 5) 2147483647, .ge (.a 5) (-2147483648), .ge (.a 30) 16]) : SameJ val :=
  leafSJ h [(.c 0), (.c 0), (.c 0), (.c 0), (.c 0), (.c 0), (.c 0), (.c 2), (.c 0), (.c 2)] rfl (by kernel_rfl) (by kernel_rfl)

theorem sameJ_18 (val : Nat → Int) (h : Holds val [.at (.or (.eq (.a 4) (.c 1)) (.or (.eq (.a 4) (.c 2)) (.or (.eq (.a 4) (.c 4)) (.or (.eq (.a 4) (.c 8)) .ff)))) false, .le (.a 3) 15, .ge (.a 3) 0, .is (.a 2) 5, .ne (.a 2) 0, .is (.a 1) 0, .is (.a 0) 8, .ne (.a 0) 0, .at (.or (.eq (.a 6) (.c 0)) (.or (.eq (.a 6) (.c 1)) (.or (.eq (.a 6) (.c 2)) (.or (.eq (.a 6) (.c 4)) (.or (.eq (.a 6) (.c 8)) (.or (.eq (.a 6) (.c 16)) (.or (.eq (.a 6) (.c 32)) .ff))))))) true, .le (.a 5) 2147483647, .ge (.a 5) (-2147483648), .ge (.a 30) 16]) : SameJ val :=
  leafSJ h [(.c 0), (.c 0), (.c 0), (.c 0), (.c 0), (.c 0), (.c 0), (.c 2), (.c 0), (.c 2)] rfl (by kernel_rfl) (by kernel_rfl)

theorem sameJ_19 (val : Nat → Int) (h : Holds val [.ge (.a 3) 16, .ge (.a 3) 0, .is (.a 2) 5, .ne (.a 2) 0, .is (.a 1) 0, .is (.a 0) 8, .ne (.a 0) 0, .at (.or (.eq (.a 6) (.c 0)) (.or (.eq (.a 6) (.c 1)) (.or (.eq (.a 6) (.c 2)) (.or (.eq (.a 6) (.c 4)) (.or (.eq (.a 6) (.c 8)) (.or (.eq (.a 6) (.c 16)) (.or (.eq (.a 6) (.c 32)) .ff))))))) true, .le (.a 5) 2147483647, .ge (.a 5) (-2147483648), .ge (.a 30) 16]) : SameJ val :=
  leafSJ h [(.c 0), (.c 0), (.c 0), (.c 0), (.c 0), (.c 0), (.c 0), (.c 2), (.c 0), (.c 2)] rfl (by kernel_rfl) (by kernel_rfl)

theorem sameJ_20 (val : Nat → Int) (h : Holds val [.le (.a 3) (-1), .is (.a 2) 5, .ne (.a 2) 0, .is (.a 1) 0, .is (.a 0) 8, .ne (.a 0) 0, .at (.or (.eq (.a 6) (.c 0)) (.or (.eq (.a 6) (.c 1)) (.or (.eq (.a 6) (.c 2)) (.or (.eq (.a 6) (.c 4)) (.or (.eq (.a 6) (.c 8)) (.or (.eq (.a 6) (.c 16)) (.or (.eq (.a 6) (.c 32)) .ff))))))) true, .le (.a 5) 2147483647, .ge (.a 5) (-2147483648), .ge (.a 30) 16]) : SameJ val :=
  leafSJ h [(.c 0), (.c 0), (.c 0), (.c 0), (.c 0), (.c 0), (.c 0), (.c 2), (.c 0), (.c 2)] rfl (by kernel_rfl) (by kernel_rfl)

theorem sameJ_21 (val : Nat → Int) (h : Holds val [.ne (.a 2) 5, .ne (.a 2) 0, .is (.a 1) 0, .is (.a 0) 8, .ne (.a 0) 0, .at (.or (.eq (.a 6) (.c 0)) (.or (.eq (.a 6) (.c 1)) (.or (.eq (.a 6) (.c 2)) (.or (.eq (.a 6) (.c 4)) (.or (.eq (.a 6) (.c 8)) (.or (.eq (.a 6) (.c 16)) (.or (.eq (.a 6) (.c 32)) .ff))))))) true, .le (.a 5) 2147483647, .ge (.a 5) (-2147483648), .ge (.a 30) 16]) : SameJ val :=
  leafSJ h [(.c 0), (.c 0), (.c 0), (.c 0), (.c 0), (.c 0), (.c 0), (.c 2), (.c 0), (.c 2)] rfl (by kernel_rfl) (by kernel_rfl)

theorem sameJ_22 (val : Nat → Int) (h : Holds val [.ne (.a 1) 0, .is (.a 0) 8, .ne (.a 0) 0, .at (.or (.eq (.a 6) (.c 0)) (.or (.eq (.a 6) (.c 1)) (.or (.eq (.a 6) (.c 2)) (.or (.eq (.a 6) (.c 4)) (.or (.eq (.a 6) (.c 8)) (.or (.eq (.a 6) (.c 16)) (.or (.eq (.a 6) (.c 32)) .ff))))))) true, .le (.a 5) 2147483647, .ge (.a 5) (-2147483648), .ge (.a 30) 16]) : SameJ val :=
  leafSJ h [(.c 0), (.c 0), (.c 0), (.c 0), (.c 0), (.c 0), (.c 0), (.c 2), (.c 0), (.c 2)] rfl (by kernel_rfl) (by kernel_rfl)

theorem sameJ_23 (val : Nat → Int) (h : Holds val [.is (.a 4) 0, .is (.a 3) 0, .is (.a 2) 0, .le (.a 1) 15, .ge (.a 1) 0, .is (.a 0) 5, .ne (.a 0) 8, .ne (.a 0) 0, .at (.or (.eq (.a 6) (.c 0)) (.or (.eq (.a 6) (.c 1)) (.or (.eq (.a 6) (.c 2)) (.or (.eq (.a 6) (.c 4)) (.or (.eq (.a 6) (.c 8)) (.or (.eq (.a 6) (.c 16)) (.or (.eq (.a 6) (.c 32)) .ff))))))) true, .le (.a 5) 2147483647, .ge (.a 5) (-2147483648), .ge (.a 30) 16]) : SameJ val :=
  leafSJ h [(.a 0), (.a 1), (.a 2), (.a 3), (.a 4), (.a 5), (.a 6), (.c 0), (.wrap .i64 (.add (.wrap .i64 (.add (.wrap .i64 (.add (.c 0) (.at 8 (.a 1)))) (.c 0))) (.a 5))), (.c 0)] rfl (by kernel_rfl) (by kernel_rfl)

theorem sameJ_24 (val : Nat → Int) (h : Holds val [.ne (.a 4) 0, .is (.a 3) 0, .is (.a 2) 0, .le (.a 1) 15, .ge (.a 1) 0, .is (.a 0) 5, .ne (.a 0) 8, .ne (.a 0) 0, .at (.or (.eq (.a 6) (.c 0)) (.or (.eq (.a 6) (.c 1)) (.or (.eq (.a 6) (.c 2)) (.or (.eq (.a 6) (.c 4)) (.or (.eq (.a 6) (.c 8)) (.or (.eq (.a 6) (.c 16)) (.or (.eq (.a 6) (.c 32)) .ff))))))) true, .le (.a 5) 2147483647, .ge (.a 5) (-2147483648), .ge (.a 30) 16]) : SameJ val :=
  leafSJ h [(.c 0), (.c 0), (.c 0), (.c 0), (.c 0), (.c 0), (.c 0), (.c 2), (.c 0), (.c 2)] rfl (by kernel_rfl) (by kernel_rfl)

theorem sameJ_25 (val : Nat → Int) (h : Holds val [.ne (.a 3) 0, .is (.a 2) 0, .le (.a 1) 15, .ge (.a 1) 0, .is (.a 0) 5, .ne (.a 0) 8, .ne (.a 0) 0, .at (.or (.eq (.a 6) (.c 0)) (.or (.eq (.a 6) (.c 1)) (.or (.eq (.a 6) (.c 2)) (.or (.eq (.a 6) (.c 4)) (.or (.eq (.a 6) (.c 8)) (.or (.eq (.a 6) (.c 16)) (.or (.eq (.a 6) (.c 32)) .ff))))))) true, .le (.a 5) 2147483647, .ge (.a 5) (-2147483648), .ge (.a 30) 16]) : SameJ val :=
  leafSJ h [(.c 0), (.c 0), (.c 0), (.c 0), (.c 0), (.c 0), (.c 0), (.c 2), (.c 0), (.c 2)] rfl (by kernel_rfl) (by kernel_rfl)

theorem sameJ_26 (val : Nat → Int) (h : Holds val [.is (.a 1) 4, .is (.a 4) 1, .is (.a 3) 4, .at (.or (.eq (.a 4) (.c 1)) (.or (.eq (.a 4) (.c 2)) (.or (.eq (.a 4) (.c 4)) (.or (.eq (.a 4) (.c 8)) .ff)))) true, .le (.a 3) 15, .ge (.a 3) 0, .is (.a 2) 5, .ne (.a 2) 0, .le (.a 1) 15, .ge (.a 1) 0, .is (.a 0) 5, .ne (.a 0) 8, .ne (.a 0) 0, .at (.or (.eq (.a 6) (.c 0)) (.or (.eq (.a 6) (.c 1)) (.or (.eq (.a 6) (.c 2)) (.or (.eq (.a 6) (.c 4)) (.or (.eq (.a 6) (.c 8)) (.or (.eq (.a 6) (.c 16)) (.or (.eq (.a 6) (.c 32)) .ff))))))) true, .le (.a 5) 2147483647, .ge (.a 5) (-2147483648), .ge (.a 30) 16]) : SameJ val :=
  leafSJ h [(.c 0), (.c 0), (.c 0), (.c 0), (.c 0), (.c 0), (.c 0), (.c 2), (.c 0), (.c 2)] rfl (by kernel_rfl) (by kernel_rfl)

theorem sameJ_27 (val : Nat → Int) (h : Holds val [.ne (.a 1) 4, .is (.a 4) 1, .is (.a 3) 4, .at (.or (.eq (.a 4) (.c 1)) (.or (.eq (.a 4) (.c 2)) (.or (.eq (.a 4) (.c 4)) (.or (.eq (.a 4) (.c 8)) .ff)))) true, .le (.a 3) 15, .ge (.a 3) 0, .is (.a 2) 5, .ne (.a 2) 0, .le (.a 1) 15, .ge (.a 1) 0, .is (.a 0) 5, .ne (.a 0) 8, .ne (.a 0) 0, .at (.or (.eq (.a 6) (.c 0)) (.or (.eq (.a 6) (.c 1)) (.or (.eq (.a 6) (.c 2)) (.or (.eq (.a 6) (.c 4)) (.or (.eq (.a 6) (.c 8)) (.or (.eq (.a 6) (.c 16)) (.or (.eq (.a 6) (.c 32)) .ff))))))) true, .le (.a 5) 2147483647, .ge (.a 5) (-2147483648), .ge (.a 30) 16]) : SameJ val :=
  leafSJ h [(.a 2), (.a 3), (.a 0), (.a 1), (.a 4), (.a 5), (.a 6), (.c 0), (.wrap .i64 (.add (.wrap .i64 (.add (.wrap .i64 (.add (.c 0) (.at 8 (.a 1)))) (.wrap .i64 (.mul (.c 1) (.a 12))))) (.a 5))), (.c 0)] rfl (by kernel_rfl) (by kernel_rfl)

theorem sameJ_28 (val : Nat → Int) (h : Holds val [.ne (.a 4) 1, .is (.a 3) 4, .at (.or (.eq (.a 4) (.c 1)) (.or (.eq (.a 4) (.c 2)) (.or (.eq (.a 4) (.c 4)) (.or (.eq (.a 4) (.c 8)) .ff)))) true, .le (.a 3) 15, .ge (.a 3) 0, .is (.a 2) 5, .ne (.a 2) 0, .le (.a 1) 15, .ge (.a 1) 0, .is (.a 0) 5, .ne (.a 0) 8, .ne (.a 0) 0, .at (.or (.eq (.a 6) (.c 0)) (.or (.eq (.a 6) (.c 1)) (.or (.eq (.a 6) (.c 2)) (.or (.eq (.a 6) (.c 4)) (.or (.eq (.a 6) (.c 8)) (.or (.eq (.a 6) (.c 16)) (.or (.eq (.a 6) (.c 32)) .ff))))))) true, .le (.a 5) 2147483647, .ge (.a 5) (-2147483648), .ge (.a 30) 16]) : SameJ val :=
  leafSJ h [(.c 0), (.c 0), (.c 0), (.c 0), (.c 0), (.c 0), (.c 0), (.c 2), (.c 0), (.c 2)] rfl (by kernel_rfl) (by kernel_rfl)

theorem sameJ_29 (val : Nat → Int) (h : Holds val [.is (.a 4) 1, .ne (.a 3) 4, .at (.or (.eq (.a 4) (.c 1)) (.or (.eq (.a 4) (.c 2)) (.or (.eq (.a 4) (.c 4)) (.or (.eq (.a 4) (.c 8)) .ff)))) true, .le (.a 3) 15, .ge (.a 3) 0, .is (.a 2) 5, .ne (.a 2) 0, .le (.a 1) 15, .ge (.a 1) 0, .is (.a 0) 5, .ne (.a 0) 8, .ne (.a 0) 0, .at (.or (.eq (.a 6) (.c 0)) (.or (.eq (.a 6) (.c 1)) (.or (.eq (.a 6) (.c 2)) (.or (.eq (.a 6) (.c 4)) (.or (.eq (.a 6) (.c 8)) (.or (.eq (.a 6) (.c 16)) (.or (.eq (.a 6) (.c 32)) .ff))))))) true, .le (.a 5) 2147483647, .ge (.a 5) (-2147483648), .ge (.a 30) 16]) : SameJ val :=
  leafSJ h [(.a 0), (.a 1), (.a 2), (.a 3), (.a 4), (.a 5), (.a 6), (.c 0), (.wrap .i64 (.add (.wrap .i64 (.add (.wrap .i64 (.add (.c 0) (.at 8 (.a 1)))) (.wrap .i64 (.mul (.c 1) (.at 8 (.a 3)))))) (.a 5))), (.c 0)] rfl (by kernel_rfl) (by kernel_rfl)

theorem sameJ_30 (val : Nat → Int) (h : Holds val [.ne (.a 4) 1, .ne (.a 3) 4, .at (.or (.eq (.a 4) (.c 1)) (.or (.eq (.a 4) (.c 2)) (.or (.eq (.a 4) (.c 4)) (.or (.eq (.a 4) (.c 8)) .ff)))) true, .le (.a 3) 15, .ge (.a 3) 0, .is (.a 2) 5, .ne (.a 2) 0, .le (.a 1) 15, .ge (.a 1) 0, .is (.a 0) 5, .ne (.a 0) 8, .ne (.a 0) 0, .at (.or (.eq (.a 6) (.c 0)) (.or (.eq (.a 6) (.c 1)) (.or (.eq (.a 6) (.c 2)) (.or (.eq (.a 6) (.c 4)) (.or (.eq (.a 6) (.c 8)) (.or (.eq (.a 6) (.c 16)) (.or (.eq (.a 6) (.c 32)) .ff))))))) true, .le (.a 5) 2147483647, .ge (.a 5) (-2147483648), .ge (.a 30) 16]) : SameJ val :=
  leafSJ h [(.a 0), (.a 1), (.a 2), (.a 3), (.a 4), (.a 5), (.a 6), (.c 0), (.wrap .i64 (.add (.wrap .i64 (.add (.wrap .i64 (.add (.c 0) (.at 8 (.a 1)))) (.wrap .i64 (.mul (.a 4) (.at 8 (.a 3)))))) (.a 5))), (.c 0)] rfl (by kernel_rfl) (by kernel_rfl)

theorem sameJ_31 (val : Nat → Int) (h : Holds val [.at (.or (.eq (.a 4) (.c 1)) (.or (.eq (.a 4) (.c 2)) (.or (.eq (.a 4) (.c 4)) (.or (.eq (.a 4) (.c 8)) .ff)))) false, .le (.a 3) 15, .ge (.a 3) 0, .is (.a 2) 5, .ne (.a 2) 0, .le (.a 1) 15, .ge (.a 1) 0, .is (.a 0) 5, .ne (.a 0) 8, .ne (.a 0) 0, .at (.or (.eq (.a 6) (.c 0)) (.or (.eq (.a 6) (.c 1)) (.or (.eq (.a 6) (.c 2)) (.or (.eq (.a 6) (.c 4)) (.or (.eq (.a 6) (.c 8)) (.or (.eq (.a 6) (.c 16)) (.or (.eq (.a 6) (.c 32)) .ff))))))) true, .le (.a 5) 2147483647, .ge (.a 5) (-2147483648), .ge (.a 30) 16]) : SameJ val :=
  leafSJ h [(.c 0), (.c 0), (.c 0), (.c 0), (.c 0), (.c 0), (.c 0), (.c 2), (.c 0), (.c 2)] rfl (by kernel_rfl) (by kernel_rfl)

theorem sameJ_32 (val : Nat → Int) (h : Holds val [.ge (.a 3) 16, .ge (.a 3) 0, .is (.a 2) 5, .ne (.a 2) 0, .le (.a 1) 15, .ge (.a 1) 0, .is (.a 0) 5, .ne (.a 0) 8, .ne (.a 0) 0, .at (.or (.eq (.a 6) (.c 0)) (.or (.eq (.a 6) (.c 1)) (.or (.eq (.a 6) (.c 2)) (.or (.eq (.a 6) (.c 4)) (.or (.eq (.a 6) (.c 8)) (.or (.eq (.a 6) (.c 16)) (.or (.eq (.a 6) (.c 32)) .ff))))))) true, .le (.a 5) 2147483647, .ge (.a 5) (-2147483648), .ge (.a 30) 16]) : SameJ val :=
  leafSJ h [(.c 0), (.c 0), (.c 0), (.c 0), (.c 0), (.c 0), (.c 0), (.c 2), (.c 0), (.c 2)] rfl (by kernel_rfl) (by kernel_rfl)

theorem sameJ_33 (val : Nat → Int) (h : Holds val [.le (.a 3) (-1), .is (.a 2) 5, .ne (.a 2) 0, .le (.a 1) 15, .ge (.a 1) 0, .is (.a 0) 5, .ne (.a 0) 8, .ne (.a 0) 0, .at (.or (.eq (.a 6) (.c 0)) (.or (.eq (.a 6) (.c 1)) (.or (.eq (.a 6) (.c 2)) (.or (.eq (.a 6) (.c 4)) (.or (.eq (.a 6) (.c 8)) (.or (.eq (.a 6) (.c 16)) (.or (.eq (.a 6) (.c 32)) .ff))))))) true, .le (.a 5) 2147483647, .ge (.a 5) (-2147483648), .ge (.a 30) 16]) : SameJ val :=
  leafSJ h [(.c 0), (.c 0), (.c 0), (.c 0), (.c 0), (.c 0), (.c 0), (.c 2), (.c 0), (.c 2)] rfl (by kernel_rfl) (by kernel_rfl)

theorem sameJ_34 (val : Nat → Int) (h : Holds val [.ne (.a 2) 5, .ne (.a 2) 0, .le (.a 1) 15, .ge (.a 1) 0, .is (.a 0) 5, .ne (.a 0) 8, .ne (.a 0) 0, .at (.or (.eq (.a 6) (.c 0)) (.or (.eq (.a 6) (.c 1)) (.or (.eq (.a 6) (.c 2)) (.or (.eq (.a 6) (.c 4)) (.or (.eq (.a 6) (.c 8)) (.or (.eq (.a 6) (.c 16)) (.or (.eq (.a 6) (.c 32)) .ff))))))) true, .le (.a 5) 2147483647, .ge (.a 5) (-2147483648), .ge (.a 30) 16]) : SameJ val :=
  leafSJ h [(.c 0), (.c 0), (.c 0), (.c 0), (.c 0), (.c 0), (.c 0), (.c 2), (.c 0), (.c 2)] rfl (by kernel_rfl) (by kernel_rfl)

theorem sameJ_35 (val : Nat → Int) (h : Holds val [.ge (.a 1) 16, .ge (.a 1) 0, .is (.a 0) 5, .ne (.a 0) 8, .ne (.a 0) 0, .at (.or (.eq (.a 6) (.c 0)) (.or (.eq (.a 6) (.c 1)) (.or (.eq (.a 6) (.c 2)) (.or (.eq (.a 6) (.c 4)) (.or (.eq (.a 6) (.c 8)) (.or (.eq (.a 6) (.c 16)) (.or (.eq (.a 6) (.c 32)) .ff))))))) true, .le (.a 5) 2147483647, .ge (.a 5) (-2147483648), .ge (.a 30) 16]) : SameJ val :=
  leafSJ h [(.c 0), (.c 0), (.c 0), (.c 0), (.c 0), (.c 0), (.c 0), (.c 2), (.c 0), (.c 2)] rfl (by kernel_rfl) (by kernel_rfl)

theorem sameJ_36 (val : Nat → Int) (h : Holds val [.le (.a 1) (-1), .is (.a 0) 5, .ne (.a 0) 8, .ne (.a 0) 0, .at (.or (.eq (.a 6) (.c 0)) (.or (.eq (.a 6) (.c 1)) (.or (.eq (.a 6) (.c 2)) (.or (.eq (.a 6) (.c 4)) (.or (.eq (.a 6) (.c 8)) (.or (.eq (.a 6) (.c 16)) (.or (.eq (.a 6) (.c 32)) .ff))))))) true, .le (.a 5) 2147483647, .ge (.a 5) (-2147483648), .ge (.a 30) 16]) : SameJ val :=
  leafSJ h [(.c 0), (.c 0), (.c 0), (.c 0), (.c 0), (.c 0), (.c 0), (.c 2), (.c 0), (.c 2)] rfl (by kernel_rfl) (by kernel_rfl)

theorem sameJ_37 (val : Nat → Int) (h : Holds val [.ne (.a 0) 5, .ne (.a 0) 8, .ne (.a 0) 0, .at (.or (.eq (.a 6) (.c 0)) (.or (.eq (.a 6) (.c 1)) (.or (.eq (.a 6) (.c 2)) (.or (.eq (.a 6) (.c 4)) (.or (.eq (.a 6) (.c 8)) (.or (.eq (.a 6) (.c 16)) (.or (.eq (.a 6) (.c 32)) .ff))))))) true, .le (.a 5) 2147483647, .ge (.a 5) (-2147483648), .ge (.a 30) 16]) : SameJ val :=
  leafSJ h [(.c 0), (.c 0), (.c 0), (.c 0), (.c 0), (.c 0), (.c 0), (.c 2), (.c 0), (.c 2)] rfl (by kernel_rfl) (by kernel_rfl)

theorem sameJ_38 (val : Nat → Int) (h : Holds val [.at (.or (.eq (.a 6) (.c 0)) (.or (.eq (.a 6) (.c 1)) (.or (.eq (.a 6) (.c 2)) (.or (.eq (.a 6) (.c 4)) (.or (.eq (.a 6) (.c 8)) (.or (.eq (.a 6) (.c 16)) (.or (.eq (.a 6) (.c 32)) .ff))))))) false, .le (.a 5) 2147483647, .ge (.a 5) (-2147483648), .ge (.a 30) 16]) : SameJ val :=
  leafSJ h [(.c 0), (.c 0), (.c 0), (.c 0), (.c 0), (.c 0), (.c 0), (.c 2), (.c 0), (.c 2)] rfl (by kernel_rfl) (by kernel_rfl)

theorem sameJSub6 (val : Nat → Int) (h : Holds val [.ge (.a 1) 0, .is (.a 0) 5, .ne (.a 0) 8, .ne (.a 0) 0, .at (.or (.eq (.a 6) (.c 0)) (.or (.eq (.a 6) (.c 1)) (.or (.eq (.a 6) (.c 2)) (.or (.eq (.a 6) (.c 4)) (.or (.eq (.a 6) (.c 8)) (.or (.eq (.a 6) (.c 16)) (.or (.eq (.a 6) (.c 32)) .ff))))))) true, .le (.a 5) 2147483647, .ge (.a 5) (-2147483648), .ge (.a 30) 16]) : SameJ val :=
  by_way (.lt (.a 1) (.c 16)) (.le (.a 1) 15) (.ge (.a 1) 16) (by kernel_rfl) (by kernel_rfl) h
  (fun h => by_way (.eq (.a 2) (.c 0)) (.is (.a 2) 0) (.ne (.a 2) 0) (by kernel_rfl) (by kernel_rfl) h
  (fun h => by_way (.eq (.a 3) (.c 0)) (.is (.a 3) 0) (.ne (.a 3) 0) (by kernel_rfl) (by kernel_rfl) h
  (fun h => by_way (.eq (.a 4) (.c 0)) (.is (.a 4) 0) (.ne (.a 4) 0) (by kernel_rfl) (by kernel_rfl) h
  (fun h => sameJ_23 val h)
  (fun h => sameJ_24 val h))
  (fun h => sameJ_25 val h))
  (fun h => by_way (.eq (.a 2) (.c 5)) (.is (.a 2) 5) (.ne (.a 2) 5) (by kernel_rfl) (by kernel_rfl) h
  (fun h => by_way (.le (.c 0) (.a 3)) (.ge (.a 3) 0) (.le (.a 3) (-1)) (by kernel_rfl) (by kernel_rfl) h
  (fun h => by_way (.lt (.a 3) (.c 16)) (.le (.a 3) 15) (.ge (.a 3) 16) (by kernel_rfl) (by kernel_rfl) h
  (fun h => by_way (.or (.eq (.a 4) (.c 1)) (.or (.eq (.a 4) (.c 2)) (.or (.eq (.a 4) (.c 4)) (.or (.eq (.a 4) (.c 8)) .ff)))) (.at (.or (.eq (.a 4) (.c 1)) (.or (.eq (.a 4) (.c 2)) (.or (.eq (.a 4) (.c 4)) (.or (.eq (.a 4) (.c 8)) .ff)))) true) (.at (.or (.eq (.a 4) (.c 1)) (.or (.eq (.a 4) (.c 2)) (.or (.eq (.a 4) (.c 4)) (.or (.eq (.a 4) (.c 8)) .ff)))) false) (by kernel_rfl) (by kernel_rfl) h
  (fun h => by_way (.eq (.a 3) (.c 4)) (.is (.a 3) 4) (.ne (.a 3) 4) (by kernel_rfl) (by kernel_rfl) h
  (fun h => by_way (.eq (.a 4) (.c 1)) (.is (.a 4) 1) (.ne (.a 4) 1) (by kernel_rfl) (by kernel_rfl) h
  (fun h => by_way (.eq (.a 1) (.c 4)) (.is (.a 1) 4) (.ne (.a 1) 4) (by kernel_rfl) (by kernel_rfl) h
  (fun h => sameJ_26 val h)
  (fun h => sameJ_27 val h))
  (fun h => sameJ_28 val h))
  (fun h => by_way (.eq (.a 4) (.c 1)) (.is (.a 4) 1) (.ne (.a 4) 1) (by kernel_rfl) (by kernel_rfl) h
  (fun h => sameJ_29 val h)
  (fun h => sameJ_30 val h)))
  (fun h => sameJ_31 val h))
  (fun h => sameJ_32 val h))
  (fun h => sameJ_33 val h))
  (fun h => sameJ_34 val h)))
  (fun h => sameJ_35 val h)

theorem sameJSub5 (val : Nat → Int) (h : Holds val [.is (.a 0) 5, .ne (.a 0) 8, .ne (.a 0) 0, .at (.or (.eq (.a 6) (.c 0)) (.or (.eq (.a 6) (.c 1)) (.or (.eq (.a 6) (.c 2)) (.or (.eq (.a 6) (.c 4)) (.or (.eq (.a 6) (.c 8)) (.or (.eq (.a 6) (.c 16)) (.or (.eq (.a 6) (.c 32)) .ff))))))) true, .le (.a 5) 2147483647, .ge (.a 5) (-2147483648), .ge (.a 30) 16]) : SameJ val :=
  by_way (.le (.c 0) (.a 1)) (.ge (.a 1) 0) (.le (.a 1) (-1)) (by kernel_rfl) (by kernel_rfl) h
  (fun h => sameJSub6 val h)
  (fun h => sameJ_36 val h)

theorem sameJSub4 (val : Nat → Int) (h : Holds val [.ne (.a 0) 8, .ne (.a 0) 0, .at (.or (.eq (.a 6) (.c 0)) (.or (.eq (.a 6) (.c 1)) (.or (.eq (.a 6) (.c 2)) (.or (.eq (.a 6) (.c 4)) (.or (.eq (.a 6) (.c 8)) (.or (.eq (.a 6) (.c 16)) (.or (.eq (.a 6) (.c 32)) .ff))))))) true, .le (.a 5) 2147483647, .ge (.a 5) (-2147483648), .ge (.a 30) 16]) : SameJ val :=
  by_way (.eq (.a 0) (.c 5)) (.is (.a 0) 5) (.ne (.a 0) 5) (by kernel_rfl) (by kernel_rfl) h
  (fun h => sameJSub5 val h)
  (fun h => sameJ_37 val h)

theorem sameJSub3 (val : Nat → Int) (h : Holds val [.ne (.a 0) 0, .at (.or (.eq (.a 6) (.c 0)) (.or (.eq (.a 6) (.c 1)) (.or (.eq (.a 6) (.c 2)) (.or (.eq (.a 6) (.c 4)) (.or (.eq (.a 6) (.c 8)) (.or (.eq (.a 6) (.c 16)) (.or (.eq (.a 6) (.c 32)) .ff))))))) true, .le (.a 5) 2147483647, .ge (.a 5) (-2147483648), .ge (.a 30) 16]) : SameJ val :=
  by_way (.eq (.a 0) (.c 8)) (.is (.a 0) 8) (.ne (.a 0) 8) (by kernel_rfl) (by kernel_rfl) h
  (fun h => by_way (.eq (.a 1) (.c 0)) (.is (.a 1) 0) (.ne (.a 1) 0) (by kernel_rfl) (by kernel_rfl) h
  (fun h => by_way (.eq (.a 2) (.c 0)) (.is (.a 2) 0) (.ne (.a 2) 0) (by kernel_rfl) (by kernel_rfl) h
  (fun h => by_way (.eq (.a 3) (.c 0)) (.is (.a 3) 0) (.ne (.a 3) 0) (by kernel_rfl) (by kernel_rfl) h
  (fun h => by_way (.eq (.a 4) (.c 0)) (.is (.a 4) 0) (.ne (.a 4) 0) (by kernel_rfl) (by kernel_rfl) h
  (fun h => sameJ_14 val h)
  (fun h => sameJ_15 val h))
  (fun h => sameJ_16 val h))
  (fun h => by_way (.eq (.a 2) (.c 5)) (.is (.a 2) 5) (.ne (.a 2) 5) (by kernel_rfl) (by kernel_rfl) h
  (fun h => by_way (.le (.c 0) (.a 3)) (.ge (.a 3) 0) (.le (.a 3) (-1)) (by kernel_rfl) (by kernel_rfl) h
  (fun h => by_way (.lt (.a 3) (.c 16)) (.le (.a 3) 15) (.ge (.a 3) 16) (by kernel_rfl) (by kernel_rfl) h
  (fun h => by_way (.or (.eq (.a 4) (.c 1)) (.or (.eq (.a 4) (.c 2)) (.or (.eq (.a 4) (.c 4)) (.or (.eq (.a 4) (.c 8)) .ff)))) (.at (.or (.eq (.a 4) (.c 1)) (.or (.eq (.a 4) (.c 2)) (.or (.eq (.a 4) (.c 4)) (.or (.eq (.a 4) (.c 8)) .ff)))) true) (.at (.or (.eq (.a 4) (.c 1)) (.or (.eq (.a 4) (.c 2)) (.or (.eq (.a 4) (.c 4)) (.or (.eq (.a 4) (.c 8)) .ff)))) false) (by kernel_rfl) (by kernel_rfl) h
  (fun h => sameJ_17 val h)
  (fun h => sameJ_18 val h))
  (fun h => sameJ_19 val h))
  (fun h => sameJ_20 val h))
  (fun h => sameJ_21 val h)))
  (fun h => sameJ_22 val h))
  (fun h => sameJSub4 val h)

theorem sameJSub2 (val : Nat → Int) (h : Holds val [.at (.or (.eq (.a 6) (.c 0)) (.or (.eq (.a 6) (.c 1)) (.or (.eq (.a 6) (.c 2)) (.or (.eq (.a 6) (.c 4)) (.or (.eq (.a 6) (.c 8)) (.or (.eq (.a 6) (.c 16)) (.or (.eq (.a 6) (.c 32)) .ff))))))) true, .le (.a 5) 2147483647, .ge (.a 5) (-2147483648), .ge (.a 30) 16]) : SameJ val :=
  by_way (.eq (.a 0) (.c 0)) (.is (.a 0) 0) (.ne (.a 0) 0) (by kernel_rfl) (by kernel_rfl) h
  (fun h => by_way (.eq (.a 1) (.c 0)) (.is (.a 1) 0) (.ne (.a 1) 0) (by kernel_rfl) (by kernel_rfl) h
  (fun h => by_way (.eq (.a 2) (.c 0)) (.is (.a 2) 0) (.ne (.a 2) 0) (by kernel_rfl) (by kernel_rfl) h
  (fun h => by_way (.eq (.a 3) (.c 0)) (.is (.a 3) 0) (.ne (.a 3) 0) (by kernel_rfl) (by kernel_rfl) h
  (fun h => by_way (.eq (.a 4) (.c 0)) (.is (.a 4) 0) (.ne (.a 4) 0) (by kernel_rfl) (by kernel_rfl) h
  (fun h => sameJ_2 val h)
  (fun h => sameJ_3 val h))
  (fun h => sameJ_4 val h))
  (fun h => by_way (.eq (.a 2) (.c 5)) (.is (.a 2) 5) (.ne (.a 2) 5) (by kernel_rfl) (by kernel_rfl) h
  (fun h => by_way (.le (.c 0) (.a 3)) (.ge (.a 3) 0) (.le (.a 3) (-1)) (by kernel_rfl) (by kernel_rfl) h
  (fun h => by_way (.lt (.a 3) (.c 16)) (.le (.a 3) 15) (.ge (.a 3) 16) (by kernel_rfl) (by kernel_rfl) h
  (fun h => by_way (.or (.eq (.a 4) (.c 1)) (.or (.eq (.a 4) (.c 2)) (.or (.eq (.a 4) (.c 4)) (.or (.eq (.a 4) (.c 8)) .ff)))) (.at (.or (.eq (.a 4) (.c 1)) (.or (.eq (.a 4) (.c 2)) (.or (.eq (.a 4) (.c 4)) (.or (.eq (.a 4) (.c 8)) .ff)))) true) (.at (.or (.eq (.a 4) (.c 1)) (.or (.eq (.a 4) (.c 2)) (.or (.eq (.a 4) (.c 4)) (.or (.eq (.a 4) (.c 8)) .ff)))) false) (by kernel_rfl) (by kernel_rfl) h
  (fun h => by_way (.eq (.a 3) (.c 4)) (.is (.a 3) 4) (.ne (.a 3) 4) (by kernel_rfl) (by kernel_rfl) h
  (fun h => by_way (.eq (.a 4) (.c 1)) (.is (.a 4) 1) (.ne (.a 4) 1) (by kernel_rfl) (by kernel_rfl) h
  (fun h => sameJ_5 val h)
  (fun h => sameJ_6 val h))
  (fun h => by_way (.eq (.a 4) (.c 1)) (.is (.a 4) 1) (.ne (.a 4) 1) (by kernel_rfl) (by kernel_rfl) h
  (fun h => sameJ_7 val h)
  (fun h => sameJ_8 val h)))
  (fun h => sameJ_9 val h))
  (fun h => sameJ_10 val h))
  (fun h => sameJ_11 val h))
  (fun h => sameJ_12 val h)))
  (fun h => sameJ_13 val h))
  (fun h => sameJSub3 val h)

theorem sameJSub1 (val : Nat → Int) (h : Holds val [.le (.a 5) 2147483647, .ge (.a 5) (-2147483648), .ge (.a 30) 16]) : SameJ val :=
  by_way (.or (.eq (.a 6) (.c 0)) (.or (.eq (.a 6) (.c 1)) (.or (.eq (.a 6) (.c 2)) (.or (.eq (.a 6) (.c 4)) (.or (.eq (.a 6) (.c 8)) (.or (.eq (.a 6) (.c 16)) (.or (.eq (.a 6) (.c 32)) .ff))))))) (.at (.or (.eq (.a 6) (.c 0)) (.or (.eq (.a 6) (.c 1)) (.or (.eq (.a 6) (.c 2)) (.or (.eq (.a 6) (.c 4)) (.or (.eq (.a 6) (.c 8)) (.or (.eq (.a 6) (.c 16)) (.or (.eq (.a 6) (.c 32)) .ff))))))) true) (.at (.or (.eq (.a 6) (.c 0)) (.or (.eq (.a 6) (.c 1)) (.or (.eq (.a 6) (.c 2)) (.or (.eq (.a 6) (.c 4)) (.or (.eq (.a 6) (.c 8)) (.or (.eq (.a 6) (.c 16)) (.or (.eq (.a 6) (.c 32)) .ff))))))) false) (by kernel_rfl) (by kernel_rfl) h
  (fun h => sameJSub2 val h)
  (fun h => sameJ_38 val h)

theorem sameJSub0 (val : Nat → Int) (h : Holds val [.ge (.a 5) (-2147483648), .ge (.a 30) 16]) : SameJ val :=
  by_way (.lt (.c 2147483647) (.a 5)) (.ge (.a 5) 2147483648) (.le (.a 5) 2147483647) (by kernel_rfl) (by kernel_rfl) h
  (fun h => sameJ_1 val h)
  (fun h => sameJSub1 val h)

theorem sameJ (val : Nat → Int) (h : Holds val [.ge (.a 30) 16]) : SameJ val :=
  by_way (.lt (.a 5) (.c (-2147483648))) (.le (.a 5) (-2147483649)) (.ge (.a 5) (-2147483648)) (by kernel_rfl) (by kernel_rfl) h
  (fun h => sameJ_0 val h)
  (fun h => sameJSub0 val h)

theorem sameLea_0 (val : Nat → Int) (h : Holds val [.ge (.a 31) 21, .is (.a 57) 0, .ne (.a 47) 0, .ne (.a 31) 16, .ge (.a 31) 0]) : SameL tG val :=
  leafT' h (by kernel_rfl) (by kernel_rfl) (fun sla => by kernel_rfl)

theorem sameLea_1 (val : Nat → Int) (h : Holds val [.le (.a 31) 20, .is (.a 57) 0, .ne (.a 47) 0, .ne (.a 31) 16, .ge (.a 31) 0]) : SameL tG val :=
  leafT' h (by kernel_rfl) (by kernel_rfl) (fun sla => by kernel_rfl)

theorem sameLea_2 (val : Nat → Int) (h : Holds val [.ge (.a 31) 21, .ne (.a 57) 0, .ne (.a 47) 0, .ne (.a 31) 16, .ge (.a 31) 0]) : SameL tG val :=
  leafT' h (by kernel_rfl) (by kernel_rfl) (fun sla => by kernel_rfl)

theorem sameLea_3 (val : Nat → Int) (h : Holds val [.le (.a 31) 20, .ne (.a 57) 0, .ne (.a 47) 0, .ne (.a 31) 16, .ge (.a 31) 0]) : SameL tG val :=
  leafT' h (by kernel_rfl) (by kernel_rfl) (fun sla => by kernel_rfl)


theorem sameLea (val : Nat → Int) (h : Holds val [.ne (.a 47) 0, .ne (.a 31) 16, .ge (.a 31) 0]) : SameL tG val :=
  by_way (.eq (.a 57) (.c 0)) (.is (.a 57) 0) (.ne (.a 57) 0) (by kernel_rfl) (by kernel_rfl) h
  (fun h => by_way (.lt (.c 20) (.a 31)) (.ge (.a 31) 21) (.le (.a 31) 20) (by kernel_rfl) (by kernel_rfl) h
  (fun h => sameLea_0 val h)
  (fun h => sameLea_1 val h))
  (fun h => by_way (.lt (.c 20) (.a 31)) (.ge (.a 31) 21) (.le (.a 31) 20) (by kernel_rfl) (by kernel_rfl) h
  (fun h => sameLea_2 val h)
  (fun h => sameLea_3 val h))

theorem same16ea_0 (val : Nat → Int) (h : Holds val [.is (.a 57) 0, .ne (.a 47) 0, .ge (.a 30) 16]) : Same16 [] (tG ++ adG) val :=
  leafS h (by kernel_rfl) (by kernel_rfl) (by kernel_rfl) (by kernel_rfl) (by kernel_rfl)

theorem same16ea_1 (val : Nat → Int) (h : Holds val [.ne (.a 57) 0, .ne (.a 47) 0, .ge (.a 30) 16]) : Same16 [] (tG ++ adG) val :=
  leafS h (by kernel_rfl) (by kernel_rfl) (by kernel_rfl) (by kernel_rfl) (by kernel_rfl)


theorem same16ea (val : Nat → Int) (h : Holds val [.ne (.a 47) 0, .ge (.a 30) 16]) : Same16 [] (tG ++ adG) val :=
  by_way (.eq (.a 57) (.c 0)) (.is (.a 57) 0) (.ne (.a 57) 0) (by kernel_rfl) (by kernel_rfl) h
  (fun h => same16ea_0 val h)
  (fun h => same16ea_1 val h)

theorem sameLno_0 (val : Nat → Int) (h : Holds val [.ge (.a 31) 21, .at (.and (.and (.eq (.a 40) (.a 50)) (.eq (.a 41) (.a 51))) (.and (.and (.eq (.a 42) (.a 52)) (.eq (.a 43) (.a 53))) (.and (.eq (.a 44) (.a 54)) (.and (.eq (.a 5) (.a 37)) (.eq (.a 6) (.a 38)))))) false, .at (.and (.and (.eq (.a 50) (.a 40)) (.eq (.a 51) (.a 41))) (.and (.and (.eq (.a 52) (.a 42)) (.eq (.a 53) (.a 43))) (.and (.eq (.a 54) (.a 44)) (.and (.eq (.a 37) (.a 5)) (.eq (.a 38) (.a 6)))))) false, .ne (.a 31) 16, .ge (.a 31) 0]) : SameL tO val :=
  leafT' h (by kernel_rfl) (by kernel_rfl) (fun sla => by kernel_rfl)

theorem sameLno_1 (val : Nat → Int) (h : Holds val [.le (.a 31) 20, .at (.and (.and (.eq (.a 40) (.a 50)) (.eq (.a 41) (.a 51))) (.and (.and (.eq (.a 42) (.a 52)) (.eq (.a 43) (.a 53))) (.and (.eq (.a 44) (.a 54)) (.and (.eq (.a 5) (.a 37)) (.eq (.a 6) (.a 38)))))) false, .at (.and (.and (.eq (.a 50) (.a 40)) (.eq (.a 51) (.a 41))) (.and (.and (.eq (.a 52) (.a 42)) (.eq (.a 53) (.a 43))) (.and (.eq (.a 54) (.a 44)) (.and (.eq (.a 37) (.a 5)) (.eq (.a 38) (.a 6)))))) false, .ne (.a 31) 16, .ge (.a 31) 0]) : SameL tO val :=
  leafT' h (by kernel_rfl) (by kernel_rfl) (fun sla => by kernel_rfl)


theorem sameLno (val : Nat → Int) (h : Holds val [.at (.and (.and (.eq (.a 40) (.a 50)) (.eq (.a 41) (.a 51))) (.and (.and (.eq (.a 42) (.a 52)) (.eq (.a 43) (.a 53))) (.and (.eq (.a 44) (.a 54)) (.and (.eq (.a 5) (.a 37)) (.eq (.a 6) (.a 38)))))) false, .at (.and (.and (.eq (.a 50) (.a 40)) (.eq (.a 51) (.a 41))) (.and (.and (.eq (.a 52) (.a 42)) (.eq (.a 53) (.a 43))) (.and (.eq (.a 54) (.a 44)) (.and (.eq (.a 37) (.a 5)) (.eq (.a 38) (.a 6)))))) false, .ne (.a 31) 16, .ge (.a 31) 0]) : SameL tO val :=
  by_way (.lt (.c 20) (.a 31)) (.ge (.a 31) 21) (.le (.a 31) 20) (by kernel_rfl) (by kernel_rfl) h
  (fun h => sameLno_0 val h)
  (fun h => sameLno_1 val h)

theorem same16no_0 (val : Nat → Int) (h : Holds val [.at (.and (.and (.eq (.a 40) (.a 50)) (.eq (.a 41) (.a 51))) (.and (.and (.eq (.a 42) (.a 52)) (.eq (.a 43) (.a 53))) (.and (.eq (.a 44) (.a 54)) (.and (.eq (.a 5) (.a 37)) (.eq (.a 6) (.a 38)))))) false, .at (.and (.and (.eq (.a 50) (.a 40)) (.eq (.a 51) (.a 41))) (.and (.and (.eq (.a 52) (.a 42)) (.eq (.a 53) (.a 43))) (.and (.eq (.a 54) (.a 44)) (.and (.eq (.a 37) (.a 5)) (.eq (.a 38) (.a 6)))))) false, .ge (.a 30) 16]) : Same16 [] (tO ++ adG) val :=
  leafS h (by kernel_rfl) (by kernel_rfl) (by kernel_rfl) (by kernel_rfl) (by kernel_rfl)


theorem same16no (val : Nat → Int) (h : Holds val [.at (.and (.and (.eq (.a 40) (.a 50)) (.eq (.a 41) (.a 51))) (.and (.and (.eq (.a 42) (.a 52)) (.eq (.a 43) (.a 53))) (.and (.eq (.a 44) (.a 54)) (.and (.eq (.a 5) (.a 37)) (.eq (.a 6) (.a 38)))))) false, .at (.and (.and (.eq (.a 50) (.a 40)) (.eq (.a 51) (.a 41))) (.and (.and (.eq (.a 52) (.a 42)) (.eq (.a 53) (.a 43))) (.and (.eq (.a 54) (.a 44)) (.and (.eq (.a 37) (.a 5)) (.eq (.a 38) (.a 6)))))) false, .ge (.a 30) 16]) : Same16 [] (tO ++ adG) val :=
  same16no_0 val h

end Go.Proofs.Ytlegmdfceifkcaa.Tab
