/-
  Ways through the code, part 0.
-/
import Derived.Test.YtlegmdfceifkcaaMemB
namespace Go.Proofs.Ytlegmdfceifkcaa.Tab
open Go.Sim
set_option maxRecDepth 100000

theorem addr16_0 (val : Nat → Int) (h : Holds val [.le (.a 5) (-2147483649), .ge (.a 30) 16]) : Law16 4 val :=
  leafA16 h (by kernel_rfl)

theorem addr16_1 (val : Nat → Int) (h : Holds val [.ge (.a 5) 2147483648, .ge (.a 5) (-2147483648), .ge (.a 30) 16]) : Law16 4 val :=
  leafA16 h (by kernel_rfl)

theorem addr16_2 (val : Nat → Int) (h : Holds val [.is (.a 4) 0, .is (.a 3) 0, .is (.a 2) 0, .is (.a 1) 0, .is (.a 0) 0, .at (.or (.eq (.a 6) (.c 0)) (.or (.eq (.a 6) (.c 1)) (.or (.eq (.a 6) (.c 2)) (.or (.eq (.a 6) (.c 4)) (.or (.eq (.a 6) (.c 8)) (.or (.eq (.a 6) (.c 16)) (.or (.eq (.a 6) (.c 32)) .ff))))))) true, .le (.a 5) 2147483647, .ge (.a 5) (-2147483648), .ge (.a 30) 16]) : Law16 4 val :=
  leafA16 h (by kernel_rfl)

theorem addr16_3 (val : Nat → Int) (h : Holds val [.ne (.a 4) 0, .is (.a 3) 0, .is (.a 2) 0, .is (.a 1) 0, .is (.a 0) 0, .at (.or (.eq (.a 6) (.c 0)) (.or (.eq (.a 6) (.c 1)) (.or (.eq (.a 6) (.c 2)) (.or (.eq (.a 6) (.c 4)) (.or (.eq (.a 6) (.c 8)) (.or (.eq (.a 6) (.c 16)) (.or (.eq (.a 6) (.c 32)) .ff))))))) true, .le (.a 5) 2147483647, .ge (.a 5) (-2147483648), .ge (.a 30) 16]) : Law16 4 val :=
  leafA16 h (by kernel_rfl)

theorem addr16_4 (val : Nat → Int) (h : Holds val [.ne (.a 3) 0, .is (.a 2) 0, .is (.a 1) 0, .is (.a 0) 0, .at (.or (.eq (.a 6) (.c 0)) (.or (.eq (.a 6) (.c 1)) (.or (.eq (.a 6) (.c 2)) (.or (.eq (.a 6) (.c 4)) (.or (.eq (.a 6) (.c 8)) (.or (.eq (.a 6) (.c 16)) (.or (.eq (.a 6) (.c 32)) .ff))))))) true, .le (.a 5) 2147483647, .ge (.a 5) (-2147483648), .ge (.a 30) 16]) : Law16 4 val :=
  leafA16 h (by kernel_rfl)

theorem addr16_5 (val : Nat → Int) (h : Holds val [.is (.a 4) 1, .is (.a 3) 4, .at (.or (.eq (.a 4) (.c 1)) (.or (.eq (.a 4) (.c 2)) (.or (.eq (.a 4) (.c 4)) (.or (.eq (.a 4) (.c 8)) .ff)))) true, .le (.a 3) 15, .ge (.a 3) 0, .is (.a 2) 5, .ne (.a 2) 0, .is (.a 1) 0, .is (.a 0) 0, .at (.or (.eq (.a 6) (.c 0)) (.or (.eq (.a 6) (.c 1)) (.or (.eq (.a 6) (.c 2)) (.or (.eq (.a 6) (.c 4)) (.or (.eq (.a 6) (.c 8)) (.or (.eq (.a 6) (.c 16)) (.or (.eq (.a 6) (.c 32)) .ff))))))) true, .le (.a 5) 2147483647, .ge (.a 5) (-2147483648), .ge (.a 30) 16]) : Law16 4 val :=
  leafA16 h (by kernel_rfl)

theorem addr16_6 (val : Nat → Int) (h : Holds val [.ne (.a 4) 1, .is (.a 3) 4, .at (.or (.eq (.a 4) (.c 1)) (.or (.eq (.a 4) (.c 2)) (.or (.eq (.a 4) (.c 4)) (.or (.eq (.a 4) (.c 8)) .ff)))) true, .le (.a 3) 15, .ge (.a 3) 0, .is (.a 2) 5, .ne (.a 2) 0, .is (.a 1) 0, .is (.a 0) 0, .at (.or (.eq (.a 6) (.c 0)) (.or (.eq (.a 6) (.c 1)) (.or (.eq (.a 6) (.c 2)) (.or (.eq (.a 6) (.c 4)) (.or (.eq (.a 6) (.c 8)) (.or (.eq (.a 6) (.c 16)) (.or (.eq (.a 6) (.c 32)) .ff))))))) true, .le (.a 5) 2147483647, .ge (.a 5) (-2147483648), .ge (.a 30) 16]) : Law16 4 val :=
  leafA16 h (by kernel_rfl)

theorem addr16_7 (val : Nat → Int) (h : Holds val [.ge (.a 4) 1, .ne (.a 3) 4, .at (.or (.eq (.a 4) (.c 1)) (.or (.eq (.a 4) (.c 2)) (.or (.eq (.a 4) (.c 4)) (.or (.eq (.a 4) (.c 8)) .ff)))) true, .le (.a 3) 15, .ge (.a 3) 0, .is (.a 2) 5, .ne (.a 2) 0, .is (.a 1) 0, .is (.a 0) 0, .at (.or (.eq (.a 6) (.c 0)) (.or (.eq (.a 6) (.c 1)) (.or (.eq (.a 6) (.c 2)) (.or (.eq (.a 6) (.c 4)) (.or (.eq (.a 6) (.c 8)) (.or (.eq (.a 6) (.c 16)) (.or (.eq (.a 6) (.c 32)) .ff))))))) true, .le (.a 5) 2147483647, .ge (.a 5) (-2147483648), .ge (.a 30) 16]) : Law16 4 val :=
  leafA16 h (by kernel_rfl)

theorem addr16_8 (val : Nat → Int) (h : Holds val [.le (.a 4) 0, .ne (.a 3) 4, .at (.or (.eq (.a 4) (.c 1)) (.or (.eq (.a 4) (.c 2)) (.or (.eq (.a 4) (.c 4)) (.or (.eq (.a 4) (.c 8)) .ff)))) true, .le (.a 3) 15, .ge (.a 3) 0, .is (.a 2) 5, .ne (.a 2) 0, .is (.a 1) 0, .is (.a 0) 0, .at (.or (.eq (.a 6) (.c 0)) (.or (.eq (.a 6) (.c 1)) (.or (.eq (.a 6) (.c 2)) (.or (.eq (.a 6) (.c 4)) (.or (.eq (.a 6) (.c 8)) (.or (.eq (.a 6) (.c 16)) (.or (.eq (.a 6) (.c 32)) .ff))))))) true, .le (.a 5) 2147483647, .ge (.a 5) (-2147483648), .ge (.a 30) 16]) : Law16 4 val :=
  leafA16 h (by kernel_rfl)

theorem addr16_9 (val : Nat → Int) (h : Holds val [.at (.or (.eq (.a 4) (.c 1)) (.or (.eq (.a 4) (.c 2)) (.or (.eq (.a 4) (.c 4)) (.or (.eq (.a 4) (.c 8)) .ff)))) false, .le (.a 3) 15, .ge (.a 3) 0, .is (.a 2) 5, .ne (.a 2) 0, .is (.a 1) 0, .is (.a 0) 0, .at (.or (.eq (.a 6) (.c 0)) (.or (.eq (.a 6) (.c 1)) (.or (.eq (.a 6) (.c 2)) (.or (.eq (.a 6) (.c 4)) (.or (.eq (.a 6) (.c 8)) (.or (.eq (.a 6) (.c 16)) (.or (.eq (.a 6) (.c 32)) .ff))))))) true, .le (.a 5) 2147483647, .ge (.a 5) (-2147483648), .ge (.a 30) 16]) : Law16 4 val :=
  leafA16 h (by kernel_rfl)

theorem addr16_10 (val : Nat → Int) (h : Holds val [.ge (.a 3) 16, .ge (.a 3) 0, .is (.a 2) 5, .ne (.a 2) 0, .is (.a 1) 0, .is (.a 0) 0, .at (.or (.eq (.a 6) (.c 0)) (.or (.eq (.a 6) (.c 1)) (.or (.eq (.a 6) (.c 2)) (.or (.eq (.a 6) (.c 4)) (.or (.eq (.a 6) (.c 8)) (.or (.eq (.a 6) (.c 16)) (.or (.eq (.a 6) (.c 32)) .ff))))))) true, .le (.a 5) 2147483647, .ge (.a 5) (-2147483648), .ge (.a 30) 16]) : Law16 4 val :=
  leafA16 h (by kernel_rfl)

theorem addr16_11 (val : Nat → Int) (h : Holds val [.le (.a 3) (-1), .is (.a 2) 5, .ne (.a 2) 0, .is (.a 1) 0, .is (.a 0) 0, .at (.or (.eq (.a 6) (.c 0)) (.or (.eq (.a 6) (.c 1)) (.or (.eq (.a 6) (.c 2)) (.or (.eq (.a 6) (.c 4)) (.or (.eq (.a 6) (.c 8)) (.or (.eq (.a 6) (.c 16)) (.or (.eq (.a 6) (.c 32)) .ff))))))) true, .le (.a 5) 2147483647, .ge (.a 5) (-2147483648), .ge (.a 30) 16]) : Law16 4 val :=
  leafA16 h (by kernel_rfl)

theorem addr16_12 (val : Nat → Int) (h : Holds val [.ne (.a 2) 5, .ne (.a 2) 0, .is (.a 1) 0, .is (.a 0) 0, .at (.or (.eq (.a 6) (.c 0)) (.or (.eq (.a 6) (.c 1)) (.or (.eq (.a 6) (.c 2)) (.or (.eq (.a 6) (.c 4)) (.or (.eq (.a 6) (.c 8)) (.or (.eq (.a 6) (.c 16)) (.or (.eq (.a 6) (.c 32)) .ff))))))) true, .le (.a 5) 2147483647, .ge (.a 5) (-2147483648), .ge (.a 30) 16]) : Law16 4 val :=
  leafA16 h (by kernel_rfl)

theorem addr16_13 (val : Nat → Int) (h : Holds val [.ne (.a 1) 0, .is (.a 0) 0, .at (.or (.eq (.a 6) (.c 0)) (.or (.eq (.a 6) (.c 1)) (.or (.eq (.a 6) (.c 2)) (.or (.eq (.a 6) (.c 4)) (.or (.eq (.a 6) (.c 8)) (.or (.eq (.a 6) (.c 16)) (.or (.eq (.a 6) (.c 32)) .ff))))))) true, .le (.a 5) 2147483647, .ge (.a 5) (-2147483648), .ge (.a 30) 16]) : Law16 4 val :=
  leafA16 h (by kernel_rfl)

theorem addr16_14 (val : Nat → Int) (h : Holds val [.is (.a 4) 0, .is (.a 3) 0, .is (.a 2) 0, .is (.a 1) 0, .is (.a 0) 8, .ne (.a 0) 0, .at (.or (.eq (.a 6) (.c 0)) (.or (.eq (.a 6) (.c 1)) (.or (.eq (.a 6) (.c 2)) (.or (.eq (.a 6) (.c 4)) (.or (.eq (.a 6) (.c 8)) (.or (.eq (.a 6) (.c 16)) (.or (.eq (.a 6) (.c 32)) .ff))))))) true, .le (.a 5) 2147483647, .ge (.a 5) (-2147483648), .ge (.a 30) 16]) : Law16 4 val :=
  leafA16 h (by kernel_rfl)

theorem addr16_15 (val : Nat → Int) (h : Holds val [.ne (.a 4) 0, .is (.a 3) 0, .is (.a 2) 0, .is (.a 1) 0, .is (.a 0) 8, .ne (.a 0) 0, .at (.or (.eq (.a 6) (.c 0)) (.or (.eq (.a 6) (.c 1)) (.or (.eq (.a 6) (.c 2)) (.or (.eq (.a 6) (.c 4)) (.or (.eq (.a 6) (.c 8)) (.or (.eq (.a 6) (.c 16)) (.or (.eq (.a 6) (.c 32)) .ff))))))) true, .le (.a 5) 2147483647, .ge (.a 5) (-2147483648), .ge (.a 30) 16]) : Law16 4 val :=
  leafA16 h (by kernel_rfl)

theorem addr16_16 (val : Nat → Int) (h : Holds val [.ne (.a 3) 0, .is (.a 2) 0, .is (.a 1) 0, .is (.a 0) 8, .ne (.a 0) 0, .at (.or (.eq (.a 6) (.c 0)) (.or (.eq (.a 6) (.c 1)) (.or (.eq (.a 6) (.c 2)) (.or (.eq (.a 6) (.c 4)) (.or (.eq (.a 6) (.c 8)) (.or (.eq (.a 6) (.c 16)) (.or (.eq (.a 6) (.c 32)) .ff))))))) true, .le (.a 5) 2147483647, .ge (.a 5) (-2147483648), .ge (.a 30) 16]) : Law16 4 val :=
  leafA16 h (by kernel_rfl)

theorem addr16_17 (val : Nat → Int) (h : Holds val [.at (.or (.eq (.a 4) (.c 1)) (.or (.eq (.a 4) (.c 2)) (.or (.eq (.a 4) (.c 4)) (.or (.eq (.a 4) (.c 8)) .ff)))) true, .le (.a 3) 15, .ge (.a 3) 0, .is (.a 2) 5, .ne (.a 2) 0, .is (.a 1) 0, .is (.a 0) 8, .ne (.a 0) 0, .at (.or (.eq (.a 6) (.c 0)) (.or (.eq (.a 6) (.c 1)) (.or (.eq (.a 6) (.c 2)) (.or (.eq (.a 6) (.c 4)) (.or (.eq (.a 6) (.c 8)) (.or (.eq (.a 6) (.c 16)) (.or (.eq (.a 6) (.c 32)) .ff))))))) true, .le (.a 5) 2147483647, .ge (.a 5) (-2147483648), .ge (.a 30) 16]) : Law16 4 val :=
  leafA16 h (by kernel_rfl)

theorem addr16_18 (val : Nat → Int) (h : Holds val [.at (.or (.eq (.a 4) (.c 1)) (.or (.eq (.a 4) (.c 2)) (.or (.eq (.a 4) (.c 4)) (.or (.eq (.a 4) (.c 8)) .ff)))) false, .le (.a 3) 15, .ge (.a 3) 0, .is (.a 2) 5, .ne (.a 2) 0, .is (.a 1) 0, .is (.a 0) 8, .ne (.a 0) 0, .at (.or (.eq (.a 6) (.c 0)) (.or (.eq (.a 6) (.c 1)) (.or (.eq (.a 6) (.c 2)) (.or (.eq (.a 6) (.c 4)) (.or (.eq (.a 6) (.c 8)) (.or (.eq (.a 6) (.c 16)) (.or (.eq (.a 6) (.c 32)) .ff))))))) true, .le (.a 5) 2147483647, .ge (.a 5) (-2147483648), .ge (.a 30) 16]) : Law16 4 val :=
  leafA16 h (by kernel_rfl)

theorem addr16_19 (val : Nat → Int) (h : Holds val [.ge (.a 3) 16, .ge (.a 3) 0, .is (.a 2) 5, .ne (.a 2) 0, .is (.a 1) 0, .is (.a 0) 8, .ne (.a 0) 0, .at (.or (.eq (.a 6) (.c 0)) (.or (.eq (.a 6) (.c 1)) (.or (.eq (.a 6) (.c 2)) (.or (.eq (.a 6) (.c 4)) (.or (.eq (.a 6) (.c 8)) (.or (.eq (.a 6) (.c 16)) (.or (.eq (.a 6) (.c 32)) .ff))))))) true, .le (.a 5) 2147483647, .ge (.a 5) (-2147483648), .ge (.a 30) 16]) : Law16 4 val :=
  leafA16 h (by kernel_rfl)

theorem addr16_20 (val : Nat → Int) (h : Holds val [.le (.a 3) (-1), .is (.a 2) 5, .ne (.a 2) 0, .is (.a 1) 0, .is (.a 0) 8, .ne (.a 0) 0, .at (.or (.eq (.a 6) (.c 0)) (.or (.eq (.a 6) (.c 1)) (.or (.eq (.a 6) (.c 2)) (.or (.eq (.a 6) (.c 4)) (.or (.eq (.a 6) (.c 8)) (.or (.eq (.a 6) (.c 16)) (.or (.eq (.a 6) (.c 32)) .ff))))))) true, .le (.a 5) 2147483647, .ge (.a 5) (-2147483648), .ge (.a 30) 16]) : Law16 4 val :=
  leafA16 h (by kernel_rfl)

theorem addr16_21 (val : Nat → Int) (h : Holds val [.ne (.a 2) 5, .ne (.a 2) 0, .is (.a 1) 0, .is (.a 0) 8, .ne (.a 0) 0, .at (.or (.eq (.a 6) (.c 0)) (.or (.eq (.a 6) (.c 1)) (.or (.eq (.a 6) (.c 2)) (.or (.eq (.a 6) (.c 4)) (.or (.eq (.a 6) (.c 8)) (.or (.eq (.a 6) (.c 16)) (.or (.eq (.a 6) (.c 32)) .ff))))))) true, .le (.a 5) 2147483647, .ge (.a 5) (-2147483648), .ge (.a 30) 16]) : Law16 4 val :=
  leafA16 h (by kernel_rfl)

theorem addr16_22 (val : Nat → Int) (h : Holds val [.ne (.a 1) 0, .is (.a 0) 8, .ne (.a 0) 0, .at (.or (.eq (.a 6) (.c 0)) (.or (.eq (.a 6) (.c 1)) (.or (.eq (.a 6) (.c 2)) (.or (.eq (.a 6) (.c 4)) (.or (.eq (.a 6) (.c 8)) (.or (.eq (.a 6) (.c 16)) (.or (.eq (.a 6) (.c 32)) .ff))))))) true, .le (.a 5) 2147483647, .ge (.a 5) (-2147483648), .ge (.a 30) 16]) : Law16 4 val :=
  leafA16 h (by kernel_rfl)

theorem addr16_23 (val : Nat → Int) (h : Holds val [.is (.a 4) 0, .is (.a 3) 0, .is (.a 2) 0, .le (.a 1) 15, .ge (.a 1) 0, .is (.a 0) 5, .ne (.a 0) 8, .ne (.a 0) 0, .at (.or (.eq (.a 6) (.c 0)) (.or (.eq (.a 6) (.c 1)) (.or (.eq (.a 6) (.c 2)) (.or (.eq (.a 6) (.c 4)) (.or (.eq (.a 6) (.c 8)) (.or (.eq (.a 6) (.c 16)) (.or (.eq (.a 6) (.c 32)) .ff))))))) true, .le (.a 5) 2147483647, .ge (.a 5) (-2147483648), .ge (.a 30) 16]) : Law16 4 val :=
  leafA16 h (by kernel_rfl)

theorem addr16_24 (val : Nat → Int) (h : Holds val [.ne (.a 4) 0, .is (.a 3) 0, .is (.a 2) 0, .le (.a 1) 15, .ge (.a 1) 0, .is (.a 0) 5, .ne (.a 0) 8, .ne (.a 0) 0, .at (.or (.eq (.a 6) (.c 0)) (.or (.eq (.a 6) (.c 1)) (.or (.eq (.a 6) (.c 2)) (.or (.eq (.a 6) (.c 4)) (.or (.eq (.a 6) (.c 8)) (.or (.eq (.a 6) (.c 16)) (.or (.eq (.a 6) (.c 32)) .ff))))))) true, .le (.a 5) 2147483647, .ge (.a 5) (-2147483648), .ge (.a 30) 16]) : Law16 4 val :=
  leafA16 h (by kernel_rfl)

theorem addr16_25 (val : Nat → Int) (h : Holds val [.ne (.a 3) 0, .is (.a 2) 0, .le (.a 1) 15, .ge (.a 1) 0, .is (.a 0) 5, .ne (.a 0) 8, .ne (.a 0) 0, .at (.or (.eq (.a 6) (.c 0)) (.or (.eq (.a 6) (.c 1)) (.or (.eq (.a 6) (.c 2)) (.or (.eq (.a 6) (.c 4)) (.or (.eq (.a 6) (.c 8)) (.or (.eq (.a 6) (.c 16)) (.or (.eq (.a 6) (.c 32)) .ff))))))) true, .le (.a 5) 2147483647, .ge (.a 5) (-2147483648), .ge (.a 30) 16]) : Law16 4 val :=
  leafA16 h (by kernel_rfl)

theorem addr16_26 (val : Nat → Int) (h : Holds val [.is (.a 1) 4, .is (.a 4) 1, .is (.a 3) 4, .at (.or (.eq (.a 4) (.c 1)) (.or (.eq (.a 4) (.c 2)) (.or (.eq (.a 4) (.c 4)) (.or (.eq (.a 4) (.c 8)) .ff)))) true, .le (.a 3) 15, .ge (.a 3) 0, .is (.a 2) 5, .ne (.a 2) 0, .le (.a 1) 15, .ge (.a 1) 0, .is (.a 0) 5, .ne (.a 0) 8, .ne (.a 0) 0, .at (.or (.eq (.a 6) (.c 0)) (.or (.eq (.a 6) (.c 1)) (.or (.eq (.a 6) (.c 2)) (.or (.eq (.a 6) (.c 4)) (.or (.eq (.a 6) (.c 8)) (.or (.eq (.a 6) (.c 16)) (.or (.eq (.a 6) (.c 32)) .ff))))))) true, .le (.a 5) 2147483647, .ge (.a 5) (-2147483648), .ge (.a 30) 16]) : Law16 4 val :=
  leafA16 h (by kernel_rfl)

theorem addr16_27 (val : Nat → Int) (h : Holds val [.ne (.a 1) 4, .is (.a 4) 1, .is (.a 3) 4, .at (.or (.eq (.a 4) (.c 1)) (.or (.eq (.a 4) (.c 2)) (.or (.eq (.a 4) (.c 4)) (.or (.eq (.a 4) (.c 8)) .ff)))) true, .le (.a 3) 15, .ge (.a 3) 0, .is (.a 2) 5, .ne (.a 2) 0, .le (.a 1) 15, .ge (.a 1) 0, .is (.a 0) 5, .ne (.a 0) 8, .ne (.a 0) 0, .at (.or (.eq (.a 6) (.c 0)) (.or (.eq (.a 6) (.c 1)) (.or (.eq (.a 6) (.c 2)) (.or (.eq (.a 6) (.c 4)) (.or (.eq (.a 6) (.c 8)) (.or (.eq (.a 6) (.c 16)) (.or (.eq (.a 6) (.c 32)) .ff))))))) true, .le (.a 5) 2147483647, .ge (.a 5) (-2147483648), .ge (.a 30) 16]) : Law16 4 val :=
  leafA16 h (by kernel_rfl)

theorem addr16_28 (val : Nat → Int) (h : Holds val [.ne (.a 4) 1, .is (.a 3) 4, .at (.or (.eq (.a 4) (.c 1)) (.or (.eq (.a 4) (.c 2)) (.or (.eq (.a 4) (.c 4)) (.or (.eq (.a 4) (.c 8)) .ff)))) true, .le (.a 3) 15, .ge (.a 3) 0, .is (.a 2) 5, .ne (.a 2) 0, .le (.a 1) 15, .ge (.a 1) 0, .is (.a 0) 5, .ne (.a 0) 8, .ne (.a 0) 0, .at (.or (.eq (.a 6) (.c 0)) (.or (.eq (.a 6) (.c 1)) (.or (.eq (.a 6) (.c 2)) (.or (.eq (.a 6) (.c 4)) (.or (.eq (.a 6) (.c 8)) (.or (.eq (.a 6) (.c 16)) (.or (.eq (.a 6) (.c 32)) .ff))))))) true, .le (.a 5) 2147483647, .ge (.a 5) (-2147483648), .ge (.a 30) 16]) : Law16 4 val :=
  leafA16 h (by kernel_rfl)

theorem addr16_29 (val : Nat → Int) (h : Holds val [.ge (.a 4) 1, .ne (.a 3) 4, .at (.or (.eq (.a 4) (.c 1)) (.or (.eq (.a 4) (.c 2)) (.or (.eq (.a 4) (.c 4)) (.or (.eq (.a 4) (.c 8)) .ff)))) true, .le (.a 3) 15, .ge (.a 3) 0, .is (.a 2) 5, .ne (.a 2) 0, .le (.a 1) 15, .ge (.a 1) 0, .is (.a 0) 5, .ne (.a 0) 8, .ne (.a 0) 0, .at (.or (.eq (.a 6) (.c 0)) (.or (.eq (.a 6) (.c 1)) (.or (.eq (.a 6) (.c 2)) (.or (.eq (.a 6) (.c 4)) (.or (.eq (.a 6) (.c 8)) (.or (.eq (.a 6) (.c 16)) (.or (.eq (.a 6) (.c 32)) .ff))))))) true, .le (.a 5) 2147483647, .ge (.a 5) (-2147483648), .ge (.a 30) 16]) : Law16 4 val :=
  leafA16 h (by kernel_rfl)

theorem addr16_30 (val : Nat → Int) (h : Holds val [.le (.a 4) 0, .ne (.a 3) 4, .at (.or (.eq (.a 4) (.c 1)) (.or (.eq (.a 4) (.c 2)) (.or (.eq (.a 4) (.c 4)) (.or (.eq (.a 4) (.c 8)) .ff)))) true, .le (.a 3) 15, .ge (.a 3) 0, .is (.a 2) 5, .ne (.a 2) 0, .le (.a 1) 15, .ge (.a 1) 0, .is (.a 0) 5, .ne (.a 0) 8, .ne (.a 0) 0, .at (.or (.eq (.a 6) (.c 0)) (.or (.eq (.a 6) (.c 1)) (.or (.eq (.a 6) (.c 2)) (.or (.eq (.a 6) (.c 4)) (.or (.eq (.a 6) (.c 8)) (.or (.eq (.a 6) (.c 16)) (.or (.eq (.a 6) (.c 32)) .ff))))))) true, .le (.a 5) 2147483647, .ge (.a 5) (-2147483648), .ge (.a 30) 16]) : Law16 4 val :=
  leafA16 h (by kernel_rfl)

theorem addr16_31 (val : Nat → Int) (h : Holds val [.at (.or (.eq (.a 4) (.c 1)) (.or (.eq (.a 4) (.c 2)) (.or (.eq (.a 4) (.c 4)) (.or (.eq (.a 4) (.c 8)) .ff)))) false, .le (.a 3) 15, .ge (.a 3) 0, .is (.a 2) 5, .ne (.a 2) 0, .le (.a 1) 15, .ge (.a 1) 0, .is (.a 0) 5, .ne (.a 0) 8, .ne (.a 0) 0, .at (.or (.eq (.a 6) (.c 0)) (.or (.eq (.a 6) (.c 1)) (.or (.eq (.a 6) (.c 2)) (.or (.eq (.a 6) (.c 4)) (.or (.eq (.a 6) (.c 8)) (.or (.eq (.a 6) (.c 16)) (.or (.eq (.a 6) (.c 32)) .ff))))))) true, .le (.a 5) 2147483647, .ge (.a 5) (-2147483648), .ge (.a 30) 16]) : Law16 4 val :=
  leafA16 h (by kernel_rfl)

theorem addr16_32 (val : Nat → Int) (h : Holds val [.ge (.a 3) 16, .ge (.a 3) 0, .is (.a 2) 5, .ne (.a 2) 0, .le (.a 1) 15, .ge (.a 1) 0, .is (.a 0) 5, .ne (.a 0) 8, .ne (.a 0) 0, .at (.or (.eq (.a 6) (.c 0)) (.or (.eq (.a 6) (.c 1)) (.or (.eq (.a 6) (.c 2)) (.or (.eq (.a 6) (.c 4)) (.or (.eq (.a 6) (.c 8)) (.or (.eq (.a 6) (.c 16)) (.or (.eq (.a 6) (.c 32)) .ff))))))) true, .le (.a 5) 2147483647, .ge (.a 5) (-2147483648), .ge (.a 30) 16]) : Law16 4 val :=
  leafA16 h (by kernel_rfl)

theorem addr16_33 (val : Nat → Int) (h : Holds val [.le (.a 3) (-1), .is (.a 2) 5, .ne (.a 2) 0, .le (.a 1) 15, .ge (.a 1) 0, .is (.a 0) 5, .ne (.a 0) 8, .ne (.a 0) 0, .at (.or (.eq (.a 6) (.c 0)) (.or (.eq (.a 6) (.c 1)) (.or (.eq (.a 6) (.c 2)) (.or (.eq (.a 6) (.c 4)) (.or (.eq (.a 6) (.c 8)) (.or (.eq (.a 6) (.c 16)) (.or (.eq (.a 6) (.c 32)) .ff))))))) true, .le (.a 5) 2147483647, .ge (.a 5) (-2147483648), .ge (.a 30) 16]) : Law16 4 val :=
  leafA16 h (by kernel_rfl)

theorem addr16_34 (val : Nat → Int) (h : Holds val [.ne (.a 2) 5, .ne (.a 2) 0, .le (.a 1) 15, .ge (.a 1) 0, .is (.a 0) 5, .ne (.a 0) 8, .ne (.a 0) 0, .at (.or (.eq (.a 6) (.c 0)) (.or (.eq (.a 6) (.c 1)) (.or (.eq (.a 6) (.c 2)) (.or (.eq (.a 6) (.c 4)) (.or (.eq (.a 6) (.c 8)) (.or (.eq (.a 6) (.c 16)) (.or (.eq (.a 6) (.c 32)) .ff))))))) true, .le (.a 5) 2147483647, .ge (.a 5) (-2147483648), .ge (.a 30) 16]) : Law16 4 val :=
  leafA16 h (by kernel_rfl)

theorem addr16_35 (val : Nat → Int) (h : Holds val [.ge (.a 1) 16, .ge (.a 1) 0, .is (.a 0) 5, .ne (.a 0) 8, .ne (.a 0) 0, .at (.or (.eq (.a 6) (.c 0)) (.or (.eq (.a 6) (.c 1)) (.or (.eq (.a 6) (.c 2)) (.or (.eq (.a 6) (.c 4)) (.or (.eq (.a 6) (.c 8)) (.or (.eq (.a 6) (.c 16)) (.or (.eq (.a 6) (.c 32)) .ff))))))) true, .le (.a 5) 2147483647, .ge (.a 5) (-2147483648), .ge (.a 30) 16]) : Law16 4 val :=
  leafA16 h (by kernel_rfl)

theorem addr16_36 (val : Nat → Int) (h : Holds val [.le (.a 1) (-1), .is (.a 0) 5, .ne (.a 0) 8, .ne (.a 0) 0, .at (.or (.eq (.a 6) (.c 0)) (.or (.eq (.a 6) (.c 1)) (.or (.eq (.a 6) (.c 2)) (.or (.eq (.a 6) (.c 4)) (.or (.eq (.a 6) (.c 8)) (.or (.eq (.a 6) (.c 16)) (.or (.eq (.a 6) (.c 32)) .ff))))))) true, .le (.a 5) 2147483647, .ge (.a 5) (-2147483648), .ge (.a 30) 16]) : Law16 4 val :=
  leafA16 h (by kernel_rfl)

theorem addr16_37 (val : Nat → Int) (h : Holds val [.ne (.a 0) 5, .ne (.a 0) 8, .ne (.a 0) 0, .at (.or (.eq (.a 6) (.c 0)) (.or (.eq (.a 6) (.c 1)) (.or (.eq (.a 6) (.c 2)) (.or (.eq (.a 6) (.c 4)) (.or (.eq (.a 6) (.c 8)) (.or (.eq (.a 6) (.c 16)) (.or (.eq (.a 6) (.c 32)) .ff))))))) true, .le (.a 5) 2147483647, .ge (.a 5) (-2147483648), .ge (.a 30) 16]) : Law16 4 val :=
  leafA16 h (by kernel_rfl)

theorem addr16_38 (val : Nat → Int) (h : Holds val [.at (.or (.eq (.a 6) (.c 0)) (.or (.eq (.a 6) (.c 1)) (.or (.eq (.a 6) (.c 2)) (.or (.eq (.a 6) (.c 4)) (.or (.eq (.a 6) (.c 8)) (.or (.eq (.a 6) (.c 16)) (.or (.eq (.a 6) (.c 32)) .ff))))))) false, .le (.a 5) 2147483647, .ge (.a 5) (-2147483648), .ge (.a 30) 16]) : Law16 4 val :=
  leafA16 h (by kernel_rfl)

theorem addr16Sub6 (val : Nat → Int) (h : Holds val [.ge (.a 1) 0, .is (.a 0) 5, .ne (.a 0) 8, .ne (.a 0) 0, .at (.or (.eq (.a 6) (.c 0)) (.or (.eq (.a 6) (.c 1)) (.or (.eq (.a 6) (.c 2)) (.or (.eq (.a 6) (.c 4)) (.or (.eq (.a 6) (.c 8)) (.or (.eq (.a 6) (.c 16)) (.or (.eq (.a 6) (.c 32)) .ff))))))) true, .le (.a 5) 2147483647, .ge (.a 5) (-2147483648), .ge (.a 30) 16]) : Law16 4 val :=
  by_way (.lt (.a 1) (.c 16)) (.le (.a 1) 15) (.ge (.a 1) 16) (by kernel_rfl) (by kernel_rfl) h
  (fun h => by_way (.eq (.a 2) (.c 0)) (.is (.a 2) 0) (.ne (.a 2) 0) (by kernel_rfl) (by kernel_rfl) h
  (fun h => by_way (.eq (.a 3) (.c 0)) (.is (.a 3) 0) (.ne (.a 3) 0) (by kernel_rfl) (by kernel_rfl) h
  (fun h => by_way (.eq (.a 4) (.c 0)) (.is (.a 4) 0) (.ne (.a 4) 0) (by kernel_rfl) (by kernel_rfl) h
  (fun h => addr16_23 val h)
  (fun h => addr16_24 val h))
  (fun h => addr16_25 val h))
  (fun h => by_way (.eq (.a 2) (.c 5)) (.is (.a 2) 5) (.ne (.a 2) 5) (by kernel_rfl) (by kernel_rfl) h
  (fun h => by_way (.le (.c 0) (.a 3)) (.ge (.a 3) 0) (.le (.a 3) (-1)) (by kernel_rfl) (by kernel_rfl) h
  (fun h => by_way (.lt (.a 3) (.c 16)) (.le (.a 3) 15) (.ge (.a 3) 16) (by kernel_rfl) (by kernel_rfl) h
  (fun h => by_way (.or (.eq (.a 4) (.c 1)) (.or (.eq (.a 4) (.c 2)) (.or (.eq (.a 4) (.c 4)) (.or (.eq (.a 4) (.c 8)) .ff)))) (.at (.or (.eq (.a 4) (.c 1)) (.or (.eq (.a 4) (.c 2)) (.or (.eq (.a 4) (.c 4)) (.or (.eq (.a 4) (.c 8)) .ff)))) true) (.at (.or (.eq (.a 4) (.c 1)) (.or (.eq (.a 4) (.c 2)) (.or (.eq (.a 4) (.c 4)) (.or (.eq (.a 4) (.c 8)) .ff)))) false) (by kernel_rfl) (by kernel_rfl) h
  (fun h => by_way (.eq (.a 3) (.c 4)) (.is (.a 3) 4) (.ne (.a 3) 4) (by kernel_rfl) (by kernel_rfl) h
  (fun h => by_way (.eq (.a 4) (.c 1)) (.is (.a 4) 1) (.ne (.a 4) 1) (by kernel_rfl) (by kernel_rfl) h
  (fun h => by_way (.eq (.a 1) (.c 4)) (.is (.a 1) 4) (.ne (.a 1) 4) (by kernel_rfl) (by kernel_rfl) h
  (fun h => addr16_26 val h)
  (fun h => addr16_27 val h))
  (fun h => addr16_28 val h))
  (fun h => by_way (.lt (.c 0) (.a 4)) (.ge (.a 4) 1) (.le (.a 4) 0) (by kernel_rfl) (by kernel_rfl) h
  (fun h => addr16_29 val h)
  (fun h => addr16_30 val h)))
  (fun h => addr16_31 val h))
  (fun h => addr16_32 val h))
  (fun h => addr16_33 val h))
  (fun h => addr16_34 val h)))
  (fun h => addr16_35 val h)

theorem addr16Sub5 (val : Nat → Int) (h : Holds val [.is (.a 0) 5, .ne (.a 0) 8, .ne (.a 0) 0, .at (.or (.eq (.a 6) (.c 0)) (.or (.eq (.a 6) (.c 1)) (.or (.eq (.a 6) (.c 2)) (.or (.eq (.a 6) (.c 4)) (.or (.eq (.a 6) (.c 8)) (.or (.eq (.a 6) (.c 16)) (.or (.eq (.a 6) (.c 32)) .ff))))))) true, .le (.a 5) 2147483647, .ge (.a 5) (-2147483648), .ge (.a 30) 16]) : Law16 4 val :=
  by_way (.le (.c 0) (.a 1)) (.ge (.a 1) 0) (.le (.a 1) (-1)) (by kernel_rfl) (by kernel_rfl) h
  (fun h => addr16Sub6 val h)
  (fun h => addr16_36 val h)

theorem addr16Sub4 (val : Nat → Int) (h : Holds val [.ne (.a 0) 8, .ne (.a 0) 0, .at (.or (.eq (.a 6) (.c 0)) (.or (.eq (.a 6) (.c 1)) (.or (.eq (.a 6) (.c 2)) (.or (.eq (.a 6) (.c 4)) (.or (.eq (.a 6) (.c 8)) (.or (.eq (.a 6) (.c 16)) (.or (.eq (.a 6) (.c 32)) .ff))))))) true, .le (.a 5) 2147483647, .ge (.a 5) (-2147483648), .ge (.a 30) 16]) : Law16 4 val :=
  by_way (.eq (.a 0) (.c 5)) (.is (.a 0) 5) (.ne (.a 0) 5) (by kernel_rfl) (by kernel_rfl) h
  (fun h => addr16Sub5 val h)
  (fun h => addr16_37 val h)

theorem addr16Sub3 (val : Nat → Int) (h : Holds val [.ne (.a 0) 0, .at (.or (.eq (.a 6) (.c 0)) (.or (.eq (.a 6) (.c 1)) (.or (.eq (.a 6) (.c 2)) (.or (.eq (.a 6) (.c 4)) (.or (.eq (.a 6) (.c 8)) (.or (.eq (.a 6) (.c 16)) (.or (.eq (.a 6) (.c 32)) .ff))))))) true, .le (.a 5) 2147483647, .ge (.a 5) (-2147483648), .ge (.a 30) 16]) : Law16 4 val :=
  by_way (.eq (.a 0) (.c 8)) (.is (.a 0) 8) (.ne (.a 0) 8) (by kernel_rfl) (by kernel_rfl) h
  (fun h => by_way (.eq (.a 1) (.c 0)) (.is (.a 1) 0) (.ne (.a 1) 0) (by kernel_rfl) (by kernel_rfl) h
  (fun h => by_way (.eq (.a 2) (.c 0)) (.is (.a 2) 0) (.ne (.a 2) 0) (by kernel_rfl) (by kernel_rfl) h
  (fun h => by_way (.eq (.a 3) (.c 0)) (.is (.a 3) 0) (.ne (.a 3) 0) (by kernel_rfl) (by kernel_rfl) h
  (fun h => by_way (.eq (.a 4) (.c 0)) (.is (.a 4) 0) (.ne (.a 4) 0) (by kernel_rfl) (by kernel_rfl) h
  (fun h => addr16_14 val h)
  (fun h => addr16_15 val h))
  (fun h => addr16_16 val h))
  (fun h => by_way (.eq (.a 2) (.c 5)) (.is (.a 2) 5) (.ne (.a 2) 5) (by kernel_rfl) (by kernel_rfl) h
  (fun h => by_way (.le (.c 0) (.a 3)) (.ge (.a 3) 0) (.le (.a 3) (-1)) (by kernel_rfl) (by kernel_rfl) h
  (fun h => by_way (.lt (.a 3) (.c 16)) (.le (.a 3) 15) (.ge (.a 3) 16) (by kernel_rfl) (by kernel_rfl) h
  (fun h => by_way (.or (.eq (.a 4) (.c 1)) (.or (.eq (.a 4) (.c 2)) (.or (.eq (.a 4) (.c 4)) (.or (.eq (.a 4) (.c 8)) .ff)))) (.at (.or (.eq (.a 4) (.c 1)) (.or (.eq (.a 4) (.c 2)) (.or (.eq (.a 4) (.c 4)) (.or (.eq (.a 4) (.c 8)) .ff)))) true) (.at (.or (.eq (.a 4) (.c 1)) (.or (.eq (.a 4) (.c 2)) (.or (.eq (.a 4) (.c 4)) (.or (.eq (.a 4) (.c 8)) .ff)))) false) (by kernel_rfl) (by kernel_rfl) h
  (fun h => addr16_17 val h)
  (fun h => addr16_18 val h))
  (fun h => addr16_19 val h))
  (fun h => addr16_20 val h))
  (fun h => addr16_21 val h)))
  (fun h => addr16_22 val h))
  (fun h => addr16Sub4 val h)

theorem addr16Sub2 (val : Nat → Int) (h : Holds val [.at (.or (.eq (.a 6) (.c 0)) (.or (.eq (.a 6) (.c 1)) (.or (.eq (.a 6) (.c 2)) (.or (.eq (.a 6) (.c 4)) (.or (.eq (.a 6) (.c 8)) (.or (.eq (.a 6) (.c 16)) (.or (.eq (.a 6) (.c 32)) .ff))))))) true, .le (.a 5) 2147483647, .ge (.a 5) (-2147483648), .ge (.a 30) 16]) : Law16 4 val :=
  by_way (.eq (.a 0) (.c 0)) (.is (.a 0) 0) (.ne (.a 0) 0) (by kernel_rfl) (by kernel_rfl) h
  (fun h => by_way (.eq (.a 1) (.c 0)) (.is (.a 1) 0) (.ne (.a 1) 0) (by kernel_rfl) (by kernel_rfl) h
  (fun h => by_way (.eq (.a 2) (.c 0)) (.is (.a 2) 0) (.ne (.a 2) 0) (by kernel_rfl) (by kernel_rfl) h
  (fun h => by_way (.eq (.a 3) (.c 0)) (.is (.a 3) 0) (.ne (.a 3) 0) (by kernel_rfl) (by kernel_rfl) h
  (fun h => by_way (.eq (.a 4) (.c 0)) (.is (.a 4) 0) (.ne (.a 4) 0) (by kernel_rfl) (by kernel_rfl) h
  (fun h => addr16_2 val h)
  (fun h => addr16_3 val h))
  (fun h => addr16_4 val h))
  (fun h => by_way (.eq (.a 2) (.c 5)) (.is (.a 2) 5) (.ne (.a 2) 5) (by kernel_rfl) (by kernel_rfl) h
  (fun h => by_way (.le (.c 0) (.a 3)) (.ge (.a 3) 0) (.le (.a 3) (-1)) (by kernel_rfl) (by kernel_rfl) h
  (fun h => by_way (.lt (.a 3) (.c 16)) (.le (.a 3) 15) (.ge (.a 3) 16) (by kernel_rfl) (by kernel_rfl) h
  (fun h => by_way (.or (.eq (.a 4) (.c 1)) (.or (.eq (.a 4) (.c 2)) (.or (.eq (.a 4) (.c 4)) (.or (.eq (.a 4) (.c 8)) .ff)))) (.at (.or (.eq (.a 4) (.c 1)) (.or (.eq (.a 4) (.c 2)) (.or (.eq (.a 4) (.c 4)) (.or (.eq (.a 4) (.c 8)) .ff)))) true) (.at (.or (.eq (.a 4) (.c 1)) (.or (.eq (.a 4) (.c 2)) (.or (.eq (.a 4) (.c 4)) (.or (.eq (.a 4) (.c 8)) .ff)))) false) (by kernel_rfl) (by kernel_rfl) h
  (fun h => by_way (.eq (.a 3) (.c 4)) (.is (.a 3) 4) (.ne (.a 3) 4) (by kernel_rfl) (by kernel_rfl) h
  (fun h => by_way (.eq (.a 4) (.c 1)) (.is (.a 4) 1) (.ne (.a 4) 1) (by kernel_rfl) (by kernel_rfl) h
  (fun h => addr16_5 val h)
  (fun h => addr16_6 val h))
  (fun h => by_way (.lt (.c 0) (.a 4)) (.ge (.a 4) 1) (.le (.a 4) 0) (by kernel_rfl) (by kernel_rfl) h
  (fun h => addr16_7 val h)
  (fun h => addr16_8 val h)))
  (fun h => addr16_9 val h))
  (fun h => addr16_10 val h))
  (fun h => addr16_11 val h))
  (fun h => addr16_12 val h)))
  (fun h => addr16_13 val h))
  (fun h => addr16Sub3 val h)

theorem addr16Sub1 (val : Nat → Int) (h : Holds val [.le (.a 5) 2147483647, .ge (.a 5) (-2147483648), .ge (.a 30) 16]) : Law16 4 val :=
  by_way (.or (.eq (.a 6) (.c 0)) (.or (.eq (.a 6) (.c 1)) (.or (.eq (.a 6) (.c 2)) (.or (.eq (.a 6) (.c 4)) (.or (.eq (.a 6) (.c 8)) (.or (.eq (.a 6) (.c 16)) (.or (.eq (.a 6) (.c 32)) .ff))))))) (.at (.or (.eq (.a 6) (.c 0)) (.or (.eq (.a 6) (.c 1)) (.or (.eq (.a 6) (.c 2)) (.or (.eq (.a 6) (.c 4)) (.or (.eq (.a 6) (.c 8)) (.or (.eq (.a 6) (.c 16)) (.or (.eq (.a 6) (.c 32)) .ff))))))) true) (.at (.or (.eq (.a 6) (.c 0)) (.or (.eq (.a 6) (.c 1)) (.or (.eq (.a 6) (.c 2)) (.or (.eq (.a 6) (.c 4)) (.or (.eq (.a 6) (.c 8)) (.or (.eq (.a 6) (.c 16)) (.or (.eq (.a 6) (.c 32)) .ff))))))) false) (by kernel_rfl) (by kernel_rfl) h
  (fun h => addr16Sub2 val h)
  (fun h => addr16_38 val h)

theorem addr16Sub0 (val : Nat → Int) (h : Holds val [.ge (.a 5) (-2147483648), .ge (.a 30) 16]) : Law16 4 val :=
  by_way (.lt (.c 2147483647) (.a 5)) (.ge (.a 5) 2147483648) (.le (.a 5) 2147483647) (by kernel_rfl) (by kernel_rfl) h
  (fun h => addr16_1 val h)
  (fun h => addr16Sub1 val h)

theorem addr16 (val : Nat → Int) (h : Holds val [.ge (.a 30) 16]) : Law16 4 val :=
  by_way (.lt (.a 5) (.c (-2147483648))) (.le (.a 5) (-2147483649)) (.ge (.a 5) (-2147483648)) (by kernel_rfl) (by kernel_rfl) h
  (fun h => addr16_0 val h)
  (fun h => addr16Sub0 val h)

end Go.Proofs.Ytlegmdfceifkcaa.Tab
