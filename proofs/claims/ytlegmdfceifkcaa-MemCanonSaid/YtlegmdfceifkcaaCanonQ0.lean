/-
  Ways through the code, part 0.
-/
import Derived.Test.YtlegmdfceifkcaaMemB
namespace Go.Proofs.Ytlegmdfceifkcaa.Tab
open Go.Sim
set_option maxRecDepth 100000

theorem canonN_0 (val : Nat → Int) (h : Holds val [.ge (.a 31) 21, .le (.a 5) (-2147483649), .ne (.a 31) 16, .ge (.a 31) 0]) : LawL 6 val :=
  leafCL h (fun sla => by kernel_rfl)

theorem canonN_1 (val : Nat → Int) (h : Holds val [.le (.a 31) 20, .le (.a 5) (-2147483649), .ne (.a 31) 16, .ge (.a 31) 0]) : LawL 6 val :=
  leafCL h (fun sla => by kernel_rfl)

theorem canonN_2 (val : Nat → Int) (h : Holds val [.ge (.a 31) 21, .ge (.a 5) 2147483648, .ge (.a 5) (-2147483648), .ne (.a 31) 16, .ge (.a 31) 0]) : LawL 6 val :=
  leafCL h (fun sla => by kernel_rfl)

theorem canonN_3 (val : Nat → Int) (h : Holds val [.le (.a 31) 20, .ge (.a 5) 2147483648, .ge (.a 5) (-2147483648), .ne (.a 31) 16, .ge (.a 31) 0]) : LawL 6 val :=
  leafCL h (fun sla => by kernel_rfl)

theorem canonN_4 (val : Nat → Int) (h : Holds val [.ge (.a 31) 21, .is (.a 4) 0, .is (.a 3) 0, .is (.a 2) 0, .is (.a 1) 0, .is (.a 0) 0, .at (.or (.eq (.a 6) (.c 0)) (.or (.eq (.a 6) (.c 1)) (.or (.eq (.a 6) (.c 2)) (.or (.eq (.a 6) (.c 4)) (.or (.eq (.a 6) (.c 8)) (.or (.eq (.a 6) (.c 16)) (.or (.eq (.a 6) (.c 32)) .ff))))))) true, .le (.a 5) 2147483647, .ge (.a 5) (-2147483648), .ne (.a 31) 16, .ge (.a 31) 0]) : LawL 6 val :=
  leafCL h (fun sla => by kernel_rfl)

theorem canonN_5 (val : Nat → Int) (h : Holds val [.le (.a 31) 20, .is (.a 4) 0, .is (.a 3) 0, .is (.a 2) 0, .is (.a 1) 0, .is (.a 0) 0, .at (.or (.eq (.a 6) (.c 0)) (.or (.eq (.a 6) (.c 1)) (.or (.eq (.a 6) (.c 2)) (.or (.eq (.a 6) (.c 4)) (.or (.eq (.a 6) (.c 8)) (.or (.eq (.a 6) (.c 16)) (.or (.eq (.a 6) (.c 32)) .ff))))))) true, .le (.a 5) 2147483647, .ge (.a 5) (-2147483648), .ne (.a 31) 16, .ge (.a 31) 0]) : LawL 6 val :=
  leafCL h (fun sla => by kernel_rfl)

theorem canonN_6 (val : Nat → Int) (h : Holds val [.ge (.a 31) 21, .ne (.a 4) 0, .is (.a 3) 0, .is (.a 2) 0, .is (.a 1) 0, .is (.a 0) 0, .at (.or (.eq (.a 6) (.c 0)) (.or (.eq (.a 6) (.c 1)) (.or (.eq (.a 6) (.c 2)) (.or (.eq (.a 6) (.c 4)) (.or (.eq (.a 6) (.c 8)) (.or (.eq (.a 6) (.c 16)) (.or (.eq (.a 6) (.c 32)) .ff))))))) true, .le (.a 5) 2147483647, .ge (.a 5) (-2147483648), .ne (.a 31) 16, .ge (.a 31) 0]) : LawL 6 val :=
  leafCL h (fun sla => by kernel_rfl)

theorem canonN_7 (val : Nat → Int) (h : Holds val [.le (.a 31) 20, .ne (.a 4) 0, .is (.a 3) 0, .is (.a 2) 0, .is (.a 1) 0, .is (.a 0) 0, .at (.or (.eq (.a 6) (.c 0)) (.or (.eq (.a 6) (.c 1)) (.or (.eq (.a 6) (.c 2)) (.or (.eq (.a 6) (.c 4)) (.or (.eq (.a 6) (.c 8)) (.or (.eq (.a 6) (.c 16)) (.or (.eq (.a 6) (.c 32)) .ff))))))) true, .le (.a 5) 2147483647, .ge (.a 5) (-2147483648), .ne (.a 31) 16, .ge (.a 31) 0]) : LawL 6 val :=
  leafCL h (fun sla => by kernel_rfl)

theorem canonN_8 (val : Nat → Int) (h : Holds val [.ge (.a 31) 21, .ne (.a 3) 0, .is (.a 2) 0, .is (.a 1) 0, .is (.a 0) 0, .at (.or (.eq (.a 6) (.c 0)) (.or (.eq (.a 6) (.c 1)) (.or (.eq (.a 6) (.c 2)) (.or (.eq (.a 6) (.c 4)) (.or (.eq (.a 6) (.c 8)) (.or (.eq (.a 6) (.c 16)) (.or (.eq (.a 6) (.c 32)) .ff))))))) true, .le (.a 5) 2147483647, .ge (.a 5) (-2147483648), .ne (.a 31) 16, .ge (.a 31) 0]) : LawL 6 val :=
  leafCL h (fun sla => by kernel_rfl)

theorem canonN_9 (val : Nat → Int) (h : Holds val [.le (.a 31) 20, .ne (.a 3) 0, .is (.a 2) 0, .is (.a 1) 0, .is (.a 0) 0, .at (.or (.eq (.a 6) (.c 0)) (.or (.eq (.a 6) (.c 1)) (.or (.eq (.a 6) (.c 2)) (.or (.eq (.a 6) (.c 4)) (.or (.eq (.a 6) (.c 8)) (.or (.eq (.a 6) (.c 16)) (.or (.eq (.a 6) (.c 32)) .ff))))))) true, .le (.a 5) 2147483647, .ge (.a 5) (-2147483648), .ne (.a 31) 16, .ge (.a 31) 0]) : LawL 6 val :=
  leafCL h (fun sla => by kernel_rfl)

theorem canonN_10 (val : Nat → Int) (h : Holds val [.ge (.a 31) 21, .is (.a 4) 1, .is (.a 3) 4, .at (.or (.eq (.a 4) (.c 1)) (.or (.eq (.a 4) (.c 2)) (.or (.eq (.a 4) (.c 4)) (.or (.eq (.a 4) (.c 8)) .ff)))) true, .le (.a 3) 15, .ge (.a 3) 0, .is (.a 2) 5, .ne (.a 2) 0, .is (.a 1) 0, .is (.a 0) 0, .at (.or (.eq (.a 6) (.c 0)) (.or (.eq (.a 6) (.c 1)) (.or (.eq (.a 6) (.c 2)) (.or (.eq (.a 6) (.c 4)) (.or (.eq (.a 6) (.c 8)) (.or (.eq (.a 6) (.c 16)) (.or (.eq (.a 6) (.c 32)) .ff))))))) true, .le (.a 5) 2147483647, .ge (.a 5) (-2147483648), .ne (.a 31) 16, .ge (.a 31) 0]) : LawL 6 val :=
  leafCL h (fun sla => by kernel_rfl)

theorem canonN_11 (val : Nat → Int) (h : Holds val [.le (.a 31) 20, .is (.a 4) 1, .is (.a 3) 4, .at (.or (.eq (.a 4) (.c 1)) (.or (.eq (.a 4) (.c 2)) (.or (.eq (.a 4) (.c 4)) (.or (.eq (.a 4) (.c 8)) .ff)))) true, .le (.a 3) 15, .ge (.a 3) 0, .is (.a 2) 5, .ne (.a 2) 0, .is (.a 1) 0, .is (.a 0) 0, .at (.or (.eq (.a 6) (.c 0)) (.or (.eq (.a 6) (.c 1)) (.or (.eq (.a 6) (.c 2)) (.or (.eq (.a 6) (.c 4)) (.or (.eq (.a 6) (.c 8)) (.or (.eq (.a 6) (.c 16)) (.or (.eq (.a 6) (.c 32)) .ff))))))) true, .le (.a 5) 2147483647, .ge (.a 5) (-2147483648), .ne (.a 31) 16, .ge (.a 31) 0]) : LawL 6 val :=
  leafCL h (fun sla => by kernel_rfl)

theorem canonN_12 (val : Nat → Int) (h : Holds val [.ge (.a 31) 21, .ne (.a 4) 1, .is (.a 3) 4, .at (.or (.eq (.a 4) (.c 1)) (.or (.eq (.a 4) (.c 2)) (.or (.eq (.a 4) (.c 4)) (.or (.eq (.a 4) (.c 8)) .ff)))) true, .le (.a 3) 15, .ge (.a 3) 0, .is (.a 2) 5, .ne (.a 2) 0, .is (.a 1) 0, .is (.a 0) 0, .at (.or (.eq (.a 6) (.c 0)) (.or (.eq (.a 6) (.c 1)) (.or (.eq (.a 6) (.c 2)) (.or (.eq (.a 6) (.c 4)) (.or (.eq (.a 6) (.c 8)) (.or (.eq (.a 6) (.c 16)) (.or (.eq (.a 6) (.c 32)) .ff))))))) true, .le (.a 5) 2147483647, .ge (.a 5) (-2147483648), .ne (.a 31) 16, .ge (.a 31) 0]) : LawL 6 val :=
  leafCL h (fun sla => by kernel_rfl)

theorem canonN_13 (val : Nat → Int) (h : Holds val [.le (.a 31) 20, .ne (.a 4) 1, .is (.a 3) 4, .at (.or (.eq (.a 4) (.c 1)) (.or (.eq (.a 4) (.c 2)) (.or (.eq (.a 4) (.c 4)) (.or (.eq (.a 4) (.c 8)) .ff)))) true, .le (.a 3) 15, .ge (.a 3) 0, .is (.a 2) 5, .ne (.a 2) 0, .is (.a 1) 0, .is (.a 0) 0, .at (.or (.eq (.a 6) (.c 0)) (.or (.eq (.a 6) (.c 1)) (.or (.eq (.a 6) (.c 2)) (.or (.eq (.a 6) (.c 4)) (.or (.eq (.a 6) (.c 8)) (.or (.eq (.a 6) (.c 16)) (.or (.eq (.a 6) (.c 32)) .ff))))))) true, .le (.a 5) 2147483647, .ge (.a 5) (-2147483648), .ne (.a 31) 16, .ge (.a 31) 0]) : LawL 6 val :=
  leafCL h (fun sla => by kernel_rfl)

theorem canonN_14 (val : Nat → Int) (h : Holds val [.ge (.a 31) 21, .is (.a 4) 1, .ne (.a 3) 4, .at (.or (.eq (.a 4) (.c 1)) (.or (.eq (.a 4) (.c 2)) (.or (.eq (.a 4) (.c 4)) (.or (.eq (.a 4) (.c 8)) .ff)))) true, .le (.a 3) 15, .ge (.a 3) 0, .is (.a 2) 5, .ne (.a 2) 0, .is (.a 1) 0, .is (.a 0) 0, .at (.or (.eq (.a 6) (.c 0)) (.or (.eq (.a 6) (.c 1)) (.or (.eq (.a 6) (.c 2)) (.or (.eq (.a 6) (.c 4)) (.or (.eq (.a 6) (.c 8)) (.or (.eq (.a 6) (.c 16)) (.or (.eq (.a 6) (.c 32)) .ff))))))) true, .le (.a 5) 2147483647, .ge (.a 5) (-2147483648), .ne (.a 31) 16, .ge (.a 31) 0]) : LawL 6 val :=
  leafCL h (fun sla => by kernel_rfl)

theorem canonN_15 (val : Nat → Int) (h : Holds val [.le (.a 31) 20, .is (.a 4) 1, .ne (.a 3) 4, .at (.or (.eq (.a 4) (.c 1)) (.or (.eq (.a 4) (.c 2)) (.or (.eq (.a 4) (.c 4)) (.or (.eq (.a 4) (.c 8)) .ff)))) true, .le (.a 3) 15, .ge (.a 3) 0, .is (.a 2) 5, .ne (.a 2) 0, .is (.a 1) 0, .is (.a 0) 0, .at (.or (.eq (.a 6) (.c 0)) (.or (.eq (.a 6) (.c 1)) (.or (.eq (.a 6) (.c 2)) (.or (.eq (.a 6) (.c 4)) (.or (.eq (.a 6) (.c 8)) (.or (.eq (.a 6) (.c 16)) (.or (.eq (.a 6) (.c 32)) .ff))))))) true, .le (.a 5) 2147483647, .ge (.a 5) (-2147483648), .ne (.a 31) 16, .ge (.a 31) 0]) : LawL 6 val :=
  leafCL h (fun sla => by kernel_rfl)

theorem canonN_16 (val : Nat → Int) (h : Holds val [.ge (.a 31) 21, .ne (.a 4) 1, .ne (.a 3) 4, .at (.or (.eq (.a 4) (.c 1)) (.or (.eq (.a 4) (.c 2)) (.or (.eq (.a 4) (.c 4)) (.or (.eq (.a 4) (.c 8)) .ff)))) true, .le (.a 3) 15, .ge (.a 3) 0, .is (.a 2) 5, .ne (.a 2) 0, .is (.a 1) 0, .is (.a 0) 0, .at (.or (.eq (.a 6) (.c 0)) (.or (.eq (.a 6) (.c 1)) (.or (.eq (.a 6) (.c 2)) (.or (.eq (.a 6) (.c 4)) (.or (.eq (.a 6) (.c 8)) (.or (.eq (.a 6) (.c 16)) (.or (.eq (.a 6) (.c 32)) .ff))))))) true, .le (.a 5) 2147483647, .ge (.a 5) (-2147483648), .ne (.a 31) 16, .ge (.a 31) 0]) : LawL 6 val :=
  leafCL h (fun sla => by kernel_rfl)

theorem canonN_17 (val : Nat → Int) (h : Holds val [.le (.a 31) 20, .ne (.a 4) 1, .ne (.a 3) 4, .at (.or (.eq (.a 4) (.c 1)) (.or (.eq (.a 4) (.c 2)) (.or (.eq (.a 4) (.c 4)) (.or (.eq (.a 4) (.c 8)) .ff)))) true, .le (.a 3) 15, .ge (.a 3) 0, .is (.a 2) 5, .ne (.a 2) 0, .is (.a 1) 0, .is (.a 0) 0, .at (.or (.eq (.a 6) (.c 0)) (.or (.eq (.a 6) (.c 1)) (.or (.eq (.a 6) (.c 2)) (.or (.eq (.a 6) (.c 4)) (.or (.eq (.a 6) (.c 8)) (.or (.eq (.a 6) (.c 16)) (.or (.eq (.a 6) (.c 32)) .ff))))))) true, .le (.a 5) 2147483647, .ge (.a 5) (-2147483648), .ne (.a 31) 16, .ge (.a 31) 0]) : LawL 6 val :=
  leafCL h (fun sla => by kernel_rfl)

theorem canonN_18 (val : Nat → Int) (h : Holds val [.ge (.a 31) 21, .at (.or (.eq (.a 4) (.c 1)) (.or (.eq (.a 4) (.c 2)) (.or (.eq (.a 4) (.c 4)) (.or (.eq (.a 4) (.c 8)) .ff)))) false, .le (.a 3) 15, .ge (.a 3) 0, .is (.a 2) 5, .ne (.a 2) 0, .is (.a 1) 0, .is (.a 0) 0, .at (.or (.eq (.a 6) (.c 0)) (.or (.eq (.a 6) (.c 1)) (.or (.eq (.a 6) (.c 2)) (.or (.eq (.a 6) (.c 4)) (.or (.eq (.a 6) (.c 8)) (.or (.eq (.a 6) (.c 16)) (.or (.eq (.a 6) (.c 32)) .ff))))))) true, .le (.a 5) 2147483647, .ge (.a 5) (-2147483648), .ne (.a 31) 16, .ge (.a 31) 0]) : LawL 6 val :=
  leafCL h (fun sla => by kernel_rfl)

theorem canonN_19 (val : Nat → Int) (h : Holds val [.le (.a 31) 20, .at (.or (.eq (.a 4) (.c 1)) (.or (.eq (.a 4) (.c 2)) (.or (.eq (.a 4) (.c 4)) (.or (.eq (.a 4) (.c 8)) .ff)))) false, .le (.a 3) 15, .ge (.a 3) 0, .is (.a 2) 5, .ne (.a 2) 0, .is (.a 1) 0, .is (.a 0) 0, .at (.or (.eq (.a 6) (.c 0)) (.or (.eq (.a 6) (.c 1)) (.or (.eq (.a 6) (.c 2)) (.or (.eq (.a 6) (.c 4)) (.or (.eq (.a 6) (.c 8)) (.or (.eq (.a 6) (.c 16)) (.or (.eq (.a 6) (.c 32)) .ff))))))) true, .le (.a 5) 2147483647, .ge (.a 5) (-2147483648), .ne (.a 31) 16, .ge (.a 31) 0]) : LawL 6 val :=
  leafCL h (fun sla => by kernel_rfl)

theorem canonN_20 (val : Nat → Int) (h : Holds val [.ge (.a 31) 21, .ge (.a 3) 16, .ge (.a 3) 0, .is (.a 2) 5, .ne (.a 2) 0, .is (.a 1) 0, .is (.a 0) 0, .at (.or (.eq (.a 6) (.c 0)) (.or (.eq (.a 6) (.c 1)) (.or (.eq (.a 6) (.c 2)) (.or (.eq (.a 6) (.c 4)) (.or (.eq (.a 6) (.c 8)) (.or (.eq (.a 6) (.c 16)) (.or (.eq (.a 6) (.c 32)) .ff))))))) true, .le (.a 5) 2147483647, .ge (.a 5) (-2147483648), .ne (.a 31) 16, .ge (.a 31) 0]) : LawL 6 val :=
  leafCL h (fun sla => by kernel_rfl)

theorem canonN_21 (val : Nat → Int) (h : Holds val [.le (.a 31) 20, .ge (.a 3) 16, .ge (.a 3) 0, .is (.a 2) 5, .ne (.a 2) 0, .is (.a 1) 0, .is (.a 0) 0, .at (.or (.eq (.a 6) (.c 0)) (.or (.eq (.a 6) (.c 1)) (.or (.eq (.a 6) (.c 2)) (.or (.eq (.a 6) (.c 4)) (.or (.eq (.a 6) (.c 8)) (.or (.eq (.a 6) (.c 16)) (.or (.eq (.a 6) (.c 32)) .ff))))))) true, .le (.a 5) 2147483647, .ge (.a 5) (-2147483648), .ne (.a 31) 16, .ge (.a 31) 0]) : LawL 6 val :=
  leafCL h (fun sla => by kernel_rfl)

theorem canonN_22 (val : Nat → Int) (h : Holds val [.ge (.a 31) 21, .le (.a 3) (-1), .is (.a 2) 5, .ne (.a 2) 0, .is (.a 1) 0, .is (.a 0) 0, .at (.or (.eq (.a 6) (.c 0)) (.or (.eq (.a 6) (.c 1)) (.or (.eq (.a 6) (.c 2)) (.or (.eq (.a 6) (.c 4)) (.or (.eq (.a 6) (.c 8)) (.or (.eq (.a 6) (.c 16)) (.or (.eq (.a 6) (.c 32)) .ff))))))) true, .le (.a 5) 2147483647, .ge (.a 5) (-2147483648), .ne (.a 31) 16, .ge (.a 31) 0]) : LawL 6 val :=
  leafCL h (fun sla => by kernel_rfl)

theorem canonN_23 (val : Nat → Int) (h : Holds val [.le (.a 31) 20, .le (.a 3) (-1), .is (.a 2) 5, .ne (.a 2) 0, .is (.a 1) 0, .is (.a 0) 0, .at (.or (.eq (.a 6) (.c 0)) (.or (.eq (.a 6) (.c 1)) (.or (.eq (.a 6) (.c 2)) (.or (.eq (.a 6) (.c 4)) (.or (.eq (.a 6) (.c 8)) (.or (.eq (.a 6) (.c 16)) (.or (.eq (.a 6) (.c 32)) .ff))))))) true, .le (.a 5) 2147483647, .ge (.a 5) (-2147483648), .ne (.a 31) 16, .ge (.a 31) 0]) : LawL 6 val :=
  leafCL h (fun sla => by kernel_rfl)

theorem canonN_24 (val : Nat → Int) (h : Holds val [.ge (.a 31) 21, .ne (.a 2) 5, .ne (.a 2) 0, .is (.a 1) 0, .is (.a 0) 0, .at (.or (.eq (.a 6) (.c 0)) (.or (.eq (.a 6) (.c 1)) (.or (.eq (.a 6) (.c 2)) (.or (.eq (.a 6) (.c 4)) (.or (.eq (.a 6) (.c 8)) (.or (.eq (.a 6) (.c 16)) (.or (.eq (.a 6) (.c 32)) .ff))))))) true, .le (.a 5) 2147483647, .ge (.a 5) (-2147483648), .ne (.a 31) 16, .ge (.a 31) 0]) : LawL 6 val :=
  leafCL h (fun sla => by kernel_rfl)

theorem canonN_25 (val : Nat → Int) (h : Holds val [.le (.a 31) 20, .ne (.a 2) 5, .ne (.a 2) 0, .is (.a 1) 0, .is (.a 0) 0, .at (.or (.eq (.a 6) (.c 0)) (.or (.eq (.a 6) (.c 1)) (.or (.eq (.a 6) (.c 2)) (.or (.eq (.a 6) (.c 4)) (.or (.eq (.a 6) (.c 8)) (.or (.eq (.a 6) (.c 16)) (.or (.eq (.a 6) (.c 32)) .ff))))))) true, .le (.a 5) 2147483647, .ge (.a 5) (-2147483648), .ne (.a 31) 16, .ge (.a 31) 0]) : LawL 6 val :=
  leafCL h (fun sla => by kernel_rfl)

theorem canonN_26 (val : Nat → Int) (h : Holds val [.ge (.a 31) 21, .ne (.a 1) 0, .is (.a 0) 0, .at (.or (.eq (.a 6) (.c 0)) (.or (.eq (.a 6) (.c 1)) (.or (.eq (.a 6) (.c 2)) (.or (.eq (.a 6) (.c 4)) (.or (.eq (.a 6) (.c 8)) (.or (.eq (.a 6) (.c 16)) (.or (.eq (.a 6) (.c 32)) .ff))))))) true, .le (.a 5) 2147483647, .ge (.a 5) (-2147483648), .ne (.a 31) 16, .ge (.a 31) 0]) : LawL 6 val :=
  leafCL h (fun sla => by kernel_rfl)

theorem canonN_27 (val : Nat → Int) (h : Holds val [.le (.a 31) 20, .ne (.a 1) 0, .is (.a 0) 0, .at (.or (.eq (.a 6) (.c 0)) (.or (.eq (.a 6) (.c 1)) (.or (.eq (.a 6) (.c 2)) (.or (.eq (.a 6) (.c 4)) (.or (.eq (.a 6) (.c 8)) (.or (.eq (.a 6) (.c 16)) (.or (.eq (.a 6) (.c 32)) .ff))))))) true, .le (.a 5) 2147483647, .ge (.a 5) (-2147483648), .ne (.a 31) 16, .ge (.a 31) 0]) : LawL 6 val :=
  leafCL h (fun sla => by kernel_rfl)

theorem canonN_28 (val : Nat → Int) (h : Holds val [.ge (.a 31) 21, .is (.a 4) 0, .is (.a 3) 0, .is (.a 2) 0, .is (.a 1) 0, .is (.a 0) 8, .ne (.a 0) 0, .at (.or (.eq (.a 6) (.c 0)) (.or (.eq (.a 6) (.c 1)) (.or (.eq (.a 6) (.c 2)) (.or (.eq (.a 6) (.c 4)) (.or (.eq (.a 6) (.c 8)) (.or (.eq (.a 6) (.c 16)) (.or (.eq (.a 6) (.c 32)) .ff))))))) true, .le (.a 5) 2147483647, .ge (.a 5) (-2147483648), .ne (.a 31) 16, .ge (.a 31) 0]) : LawL 6 val :=
  leafCL h (fun sla => by kernel_rfl)

theorem canonN_29 (val : Nat → Int) (h : Holds val [.le (.a 31) 20, .is (.a 4) 0, .is (.a 3) 0, .is (.a 2) 0, .is (.a 1) 0, .is (.a 0) 8, .ne (.a 0) 0, .at (.or (.eq (.a 6) (.c 0)) (.or (.eq (.a 6) (.c 1)) (.or (.eq (.a 6) (.c 2)) (.or (.eq (.a 6) (.c 4)) (.or (.eq (.a 6) (.c 8)) (.or (.eq (.a 6) (.c 16)) (.or (.eq (.a 6) (.c 32)) .ff))))))) true, .le (.a 5) 2147483647, .ge (.a 5) (-2147483648), .ne (.a 31) 16, .ge (.a 31) 0]) : LawL 6 val :=
  leafCL h (fun sla => by kernel_rfl)

theorem canonN_30 (val : Nat → Int) (h : Holds val [.ge (.a 31) 21, .ne (.a 4) 0, .is (.a 3) 0, .is (.a 2) 0, .is (.a 1) 0, .is (.a 0) 8, .ne (.a 0) 0, .at (.or (.eq (.a 6) (.c 0)) (.or (.eq (.a 6) (.c 1)) (.or (.eq (.a 6) (.c 2)) (.or (.eq (.a 6) (.c 4)) (.or (.eq (.a 6) (.c 8)) (.or (.eq (.a 6) (.c 16)) (.or (.eq (.a 6) (.c 32)) .ff))))))) true, .le (.a 5) 2147483647, .ge (.a 5) (-2147483648), .ne (.a 31) 16, .ge (.a 31) 0]) : LawL 6 val :=
  leafCL h (fun sla => by kernel_rfl)

theorem canonN_31 (val : Nat → Int) (h : Holds val [.le (.a 31) 20, .ne (.a 4) 0, .is (.a 3) 0, .is (.a 2) 0, .is (.a 1) 0, .is (.a 0) 8, .ne (.a 0) 0, .at (.or (.eq (.a 6) (.c 0)) (.or (.eq (.a 6) (.c 1)) (.or (.eq (.a 6) (.c 2)) (.or (.eq (.a 6) (.c 4)) (.or (.eq (.a 6) (.c 8)) (.or (.eq (.a 6) (.c 16)) (.or (.eq (.a 6) (.c 32)) .ff))))))) true, .le (.a 5) 2147483647, .ge (.a 5) (-2147483648), .ne (.a 31) 16, .ge (.a 31) 0]) : LawL 6 val :=
  leafCL h (fun sla => by kernel_rfl)

theorem canonN_32 (val : Nat → Int) (h : Holds val [.ge (.a 31) 21, .ne (.a 3) 0, .is (.a 2) 0, .is (.a 1) 0, .is (.a 0) 8, .ne (.a 0) 0, .at (.or (.eq (.a 6) (.c 0)) (.or (.eq (.a 6) (.c 1)) (.or (.eq (.a 6) (.c 2)) (.or (.eq (.a 6) (.c 4)) (.or (.eq (.a 6) (.c 8)) (.or (.eq (.a 6) (.c 16)) (.or (.eq (.a 6) (.c 32)) .ff))))))) true, .le (.a 5) 2147483647, .ge (.a 5) (-2147483648), .ne (.a 31) 16, .ge (.a 31) 0]) : LawL 6 val :=
  leafCL h (fun sla => by kernel_rfl)

theorem canonN_33 (val : Nat → Int) (h : Holds val [.le (.a 31) 20, .ne (.a 3) 0, .is (.a 2) 0, .is (.a 1) 0, .is (.a 0) 8, .ne (.a 0) 0, .at (.or (.eq (.a 6) (.c 0)) (.or (.eq (.a 6) (.c 1)) (.or (.eq (.a 6) (.c 2)) (.or (.eq (.a 6) (.c 4)) (.or (.eq (.a 6) (.c 8)) (.or (.eq (.a 6) (.c 16)) (.or (.eq (.a 6) (.c 32)) .ff))))))) true, .le (.a 5) 2147483647, .ge (.a 5) (-2147483648), .ne (.a 31) 16, .ge (.a 31) 0]) : LawL 6 val :=
  leafCL h (fun sla => by kernel_rfl)

theorem canonN_34 (val : Nat → Int) (h : Holds val [.ge (.a 31) 21, .at (.or (.eq (.a 4) (.c 1)) (.or (.eq (.a 4) (.c 2)) (.or (.eq (.a 4) (.c 4)) (.or (.eq (.a 4) (.c 8)) .ff)))) true, .le (.a 3) 15, .ge (.a 3) 0, .is (.a 2) 5, .ne (.a 2) 0, .is (.a 1) 0, .is (.a 0) 8, .ne (.a 0) 0, .at (.or (.eq (.a 6) (.c 0)) (.or (.eq (.a 6) (.c 1)) (.or (.eq (.a 6) (.c 2)) (.or (.eq (.a 6) (.c 4)) (.or (.eq (.a 6) (.c 8)) (.or (.eq (.a 6) (.c 16)) (.or (.eq (.a 6) (.c 32)) .ff))))))) true, .le (.a 5) 2147483647, .ge (.a 5) (-2147483648), .ne (.a 31) 16, .ge (.a 31) 0]) : LawL 6 val :=
  leafCL h (fun sla => by kernel_rfl)

theorem canonN_35 (val : Nat → Int) (h : Holds val [.le (.a 31) 20, .at (.or (.eq (.a 4) (.c 1)) (.or (.eq (.a 4) (.c 2)) (.or (.eq (.a 4) (.c 4)) (.or (.eq (.a 4) (.c 8)) .ff)))) true, .le (.a 3) 15, .ge (.a 3) 0, .is (.a 2) 5, .ne (.a 2) 0, .is (.a 1) 0, .is (.a 0) 8, .ne (.a 0) 0, .at (.or (.eq (.a 6) (.c 0)) (.or (.eq (.a 6) (.c 1)) (.or (.eq (.a 6) (.c 2)) (.or (.eq (.a 6) (.c 4)) (.or (.eq (.a 6) (.c 8)) (.or (.eq (.a 6) (.c 16)) (.or (.eq (.a 6) (.c 32)) .ff))))))) true, .le (.a 5) 2147483647, .ge (.a 5) (-2147483648), .ne (.a 31) 16, .ge (.a 31) 0]) : LawL 6 val :=
  leafCL h (fun sla => by kernel_rfl)

theorem canonN_36 (val : Nat → Int) (h : Holds val [.ge (.a 31) 21, .at (.or (.eq (.a 4) (.c 1)) (.or (.eq (.a 4) (.c 2)) (.or (.eq (.a 4) (.c 4)) (.or (.eq (.a 4) (.c 8)) .ff)))) false, .le (.a 3) 15, .ge (.a 3) 0, .is (.a 2) 5, .ne (.a 2) 0, .is (.a 1) 0, .is (.a 0) 8, .ne (.a 0) 0, .at (.or (.eq (.a 6) (.c 0)) (.or (.eq (.a 6) (.c 1)) (.or (.eq (.a 6) (.c 2)) (.or (.eq (.a 6) (.c 4)) (.or (.eq (.a 6) (.c 8)) (.or (.eq (.a 6) (.c 16)) (.or (.eq (.a 6) (.c 32)) .ff))))))) true, .le (.a 5) 2147483647, .ge (.a 5) (-2147483648), .ne (.a 31) 16, .ge (.a 31) 0]) : LawL 6 val :=
  leafCL h (fun sla => by kernel_rfl)

theorem canonN_37 (val : Nat → Int) (h : Holds val [.le (.a 31) 20, .at (.or (.eq (.a 4) (.c 1)) (.or (.eq (.a 4) (.c 2)) (.or (.eq (.a 4) (.c 4)) (.or (.eq (.a 4) (.c 8)) .ff)))) false, .le (.a 3) 15, .ge (.a 3) 0, .is (.a 2) 5, .ne (.a 2) 0, .is (.a 1) 0, .is (.a 0) 8, .ne (.a 0) 0, .at (.or (.eq (.a 6) (.c 0)) (.or (.eq (.a 6) (.c 1)) (.or (.eq (.a 6) (.c 2)) (.or (.eq (.a 6) (.c 4)) (.or (.eq (.a 6) (.c 8)) (.or (.eq (.a 6) (.c 16)) (.or (.eq (.a 6) (.c 32)) .ff))))))) true, .le (.a 5) 2147483647, .ge (.a 5) (-2147483648), .ne (.a 31) 16, .ge (.a 31) 0]) : LawL 6 val :=
  leafCL h (fun sla => by kernel_rfl)

theorem canonN_38 (val : Nat → Int) (h : Holds val [.ge (.a 31) 21, .ge (.a 3) 16, .ge (.a 3) 0, .is (.a 2) 5, .ne (.a 2) 0, .is (.a 1) 0, .is (.a 0) 8, .ne (.a 0) 0, .at (.or (.eq (.a 6) (.c 0)) (.or (.eq (.a 6) (.c 1)) (.or (.eq (.a 6) (.c 2)) (.or (.eq (.a 6) (.c 4)) (.or (.eq (.a 6) (.c 8)) (.or (.eq (.a 6) (.c 16)) (.or (.eq (.a 6) (.c 32)) .ff))))))) true, .le (.a 5) 2147483647, .ge (.a 5) (-2147483648), .ne (.a 31) 16, .ge (.a 31) 0]) : LawL 6 val :=
  leafCL h (fun sla => by kernel_rfl)

theorem canonN_39 (val : Nat → Int) (h : Holds val [.le (.a 31) 20, .ge (.a 3) 16, .ge (.a 3) 0, .is (.a 2) 5, .ne (.a 2) 0, .is (.a 1) 0, .is (.a 0) 8, .ne (.a 0) 0, .at (.or (.eq (.a 6) (.c 0)) (.or (.eq (.a 6) (.c 1)) (.or (.eq (.a 6) (.c 2)) (.or (.eq (.a 6) (.c 4)) (.or (.eq (.a 6) (.c 8)) (.or (.eq (.a 6) (.c 16)) (.or (.eq (.a 6) (.c 32)) .ff))))))) true, .le (.a 5) 2147483647, .ge (.a 5) (-2147483648), .ne (.a 31) 16, .ge (.a 31) 0]) : LawL 6 val :=
  leafCL h (fun sla => by kernel_rfl)

theorem canonN_40 (val : Nat → Int) (h : Holds val [.ge (.a 31) 21, .le (.a 3) (-1), .is (.a 2) 5, .ne (.a 2) 0, .is (.a 1) 0, .is (.a 0) 8, .ne (.a 0) 0, .at (.or (.eq (.a 6) (.c 0)) (.or (.eq (.a 6) (.c 1)) (.or (.eq (.a 6) (.c 2)) (.or (.eq (.a 6) (.c 4)) (.or (.eq (.a 6) (.c 8)) (.or (.eq (.a 6) (.c 16)) (.or (.eq (.a 6) (.c 32)) .ff))))))) true, .le (.a 5) 2147483647, .ge (.a 5) (-2147483648), .ne (.a 31) 16, .ge (.a 31) 0]) : LawL 6 val :=
  leafCL h (fun sla => by kernel_rfl)

theorem canonN_41 (val : Nat → Int) (h : Holds val [.le (.a 31) 20, .le (.a 3) (-1), .is (.a 2) 5, .ne (.a 2) 0, .is (.a 1) 0, .is (.a 0) 8, .ne (.a 0) 0, .at (.or (.eq (.a 6) (.c 0)) (.or (.eq (.a 6) (.c 1)) (.or (.eq (.a 6) (.c 2)) (.or (.eq (.a 6) (.c 4)) (.or (.eq (.a 6) (.c 8)) (.or (.eq (.a 6) (.c 16)) (.or (.eq (.a 6) (.c 32)) .ff))))))) true, .le (.a 5) 2147483647, .ge (.a 5) (-2147483648), .ne (.a 31) 16, .ge (.a 31) 0]) : LawL 6 val :=
  leafCL h (fun sla => by kernel_rfl)

theorem canonN_42 (val : Nat → Int) (h : Holds val [.ge (.a 31) 21, .ne (.a 2) 5, .ne (.a 2) 0, .is (.a 1) 0, .is (.a 0) 8, .ne (.a 0) 0, .at (.or (.eq (.a 6) (.c 0)) (.or (.eq (.a 6) (.c 1)) (.or (.eq (.a 6) (.c 2)) (.or (.eq (.a 6) (.c 4)) (.or (.eq (.a 6) (.c 8)) (.or (.eq (.a 6) (.c 16)) (.or (.eq (.a 6) (.c 32)) .ff))))))) true, .le (.a 5) 2147483647, .ge (.a 5) (-2147483648), .ne (.a 31) 16, .ge (.a 31) 0]) : LawL 6 val :=
  leafCL h (fun sla => by kernel_rfl)

theorem canonN_43 (val : Nat → Int) (h : Holds val [.le (.a 31) 20, .ne (.a 2) 5, .ne (.a 2) 0, .is (.a 1) 0, .is (.a 0) 8, .ne (.a 0) 0, .at (.or (.eq (.a 6) (.c 0)) (.or (.eq (.a 6) (.c 1)) (.or (.eq (.a 6) (.c 2)) (.or (.eq (.a 6) (.c 4)) (.or (.eq (.a 6) (.c 8)) (.or (.eq (.a 6) (.c 16)) (.or (.eq (.a 6) (.c 32)) .ff))))))) true, .le (.a 5) 2147483647, .ge (.a 5) (-2147483648), .ne (.a 31) 16, .ge (.a 31) 0]) : LawL 6 val :=
  leafCL h (fun sla => by kernel_rfl)

theorem canonN_44 (val : Nat → Int) (h : Holds val [.ge (.a 31) 21, .ne (.a 1) 0, .is (.a 0) 8, .ne (.a 0) 0, .at (.or (.eq (.a 6) (.c 0)) (.or (.eq (.a 6) (.c 1)) (.or (.eq (.a 6) (.c 2)) (.or (.eq (.a 6) (.c 4)) (.or (.eq (.a 6) (.c 8)) (.or (.eq (.a 6) (.c 16)) (.or (.eq (.a 6) (.c 32)) .ff))))))) true, .le (.a 5) 2147483647, .ge (.a 5) (-2147483648), .ne (.a 31) 16, .ge (.a 31) 0]) : LawL 6 val :=
  leafCL h (fun sla => by kernel_rfl)

theorem canonN_45 (val : Nat → Int) (h : Holds val [.le (.a 31) 20, .ne (.a 1) 0, .is (.a 0) 8, .ne (.a 0) 0, .at (.or (.eq (.a 6) (.c 0)) (.or (.eq (.a 6) (.c 1)) (.or (.eq (.a 6) (.c 2)) (.or (.eq (.a 6) (.c 4)) (.or (.eq (.a 6) (.c 8)) (.or (.eq (.a 6) (.c 16)) (.or (.eq (.a 6) (.c 32)) .ff))))))) true, .le (.a 5) 2147483647, .ge (.a 5) (-2147483648), .ne (.a 31) 16, .ge (.a 31) 0]) : LawL 6 val :=
  leafCL h (fun sla => by kernel_rfl)

theorem canonN_46 (val : Nat → Int) (h : Holds val [.ge (.a 31) 21, .is (.a 4) 0, .is (.a 3) 0, .is (.a 2) 0, .le (.a 1) 15, .ge (.a 1) 0, .is (.a 0) 5, .ne (.a 0) 8, .ne (.a 0) 0, .at (.or (.eq (.a 6) (.c 0)) (.or (.eq (.a 6) (.c 1)) (.or (.eq (.a 6) (.c 2)) (.or (.eq (.a 6) (.c 4)) (.or (.eq (.a 6) (.c 8)) (.or (.eq (.a 6) (.c 16)) (.or (.eq (.a 6) (.c 32)) .ff))))))) true, .le (.a 5) 2147483647, .ge (.a 5) (-2147483648), .ne (.a 31) 16, .ge (.a 31) 0]) : LawL 6 val :=
  leafCL h (fun sla => by kernel_rfl)

theorem canonN_47 (val : Nat → Int) (h : Holds val [.le (.a 31) 20, .is (.a 4) 0, .is (.a 3) 0, .is (.a 2) 0, .le (.a 1) 15, .ge (.a 1) 0, .is (.a 0) 5, .ne (.a 0) 8, .ne (.a 0) 0, .at (.or (.eq (.a 6) (.c 0)) (.or (.eq (.a 6) (.c 1)) (.or (.eq (.a 6) (.c 2)) (.or (.eq (.a 6) (.c 4)) (.or (.eq (.a 6) (.c 8)) (.or (.eq (.a 6) (.c 16)) (.or (.eq (.a 6) (.c 32)) .ff))))))) true, .le (.a 5) 2147483647, .ge (.a 5) (-2147483648), .ne (.a 31) 16, .ge (.a 31) 0]) : LawL 6 val :=
  leafCL h (fun sla => by kernel_rfl)

theorem canonN_48 (val : Nat → Int) (h : Holds val [.ge (.a 31) 21, .ne (.a 4) 0, .is (.a 3) 0, .is (.a 2) 0, .le (.a 1) 15, .ge (.a 1) 0, .is (.a 0) 5, .ne (.a 0) 8, .ne (.a 0) 0, .at (.or (.eq (.a 6) (.c 0)) (.or (.eq (.a 6) (.c 1)) (.or (.eq (.a 6) (.c 2)) (.or (.eq (.a 6) (.c 4)) (.or (.eq (.a 6) (.c 8)) (.or (.eq (.a 6) (.c 16)) (.or (.eq (.a 6) (.c 32)) .ff))))))) true, .le (.a 5) 2147483647, .ge (.a 5) (-2147483648), .ne (.a 31) 16, .ge (.a 31) 0]) : LawL 6 val :=
  leafCL h (fun sla => by kernel_rfl)

theorem canonN_49 (val : Nat → Int) (h : Holds val [.le (.a 31) 20, .ne (.a 4) 0, .is (.a 3) 0, .is (.a 2) 0, .le (.a 1) 15, .ge (.a 1) 0, .is (.a 0) 5, .ne (.a 0) 8, .ne (.a 0) 0, .at (.or (.eq (.a 6) (.c 0)) (.or (.eq (.a 6) (.c 1)) (.or (.eq (.a 6) (.c 2)) (.or (.eq (.a 6) (.c 4)) (.or (.eq (.a 6) (.c 8)) (.or (.eq (.a 6) (.c 16)) (.or (.eq (.a 6) (.c 32)) .ff))))))) true, .le (.a 5) 2147483647, .ge (.a 5) (-2147483648), .ne (.a 31) 16, .ge (.a 31) 0]) : LawL 6 val :=
  leafCL h (fun sla => by kernel_rfl)

theorem canonN_50 (val : Nat → Int) (h : Holds val [.ge (.a 31) 21, .ne (.a 3) 0, .is (.a 2) 0, .le (.a 1) 15, .ge (.a 1) 0, .is (.a 0) 5, .ne (.a 0) 8, .ne (.a 0) 0, .at (.or (.eq (.a 6) (.c 0)) (.or (.eq (.a 6) (.c 1)) (.or (.eq (.a 6) (.c 2)) (.or (.eq (.a 6) (.c 4)) (.or (.eq (.a 6) (.c 8)) (.or (.eq (.a 6) (.c 16)) (.or (.eq (.a 6) (.c 32)) .ff))))))) true, .le (.a 5) 2147483647, .ge (.a 5) (-2147483648), .ne (.a 31) 16, .ge (.a 31) 0]) : LawL 6 val :=
  leafCL h (fun sla => by kernel_rfl)

theorem canonN_51 (val : Nat → Int) (h : Holds val [.le (.a 31) 20, .ne (.a 3) 0, .is (.a 2) 0, .le (.a 1) 15, .ge (.a 1) 0, .is (.a 0) 5, .ne (.a 0) 8, .ne (.a 0) 0, .at (.or (.eq (.a 6) (.c 0)) (.or (.eq (.a 6) (.c 1)) (.or (.eq (.a 6) (.c 2)) (.or (.eq (.a 6) (.c 4)) (.or (.eq (.a 6) (.c 8)) (.or (.eq (.a 6) (.c 16)) (.or (.eq (.a 6) (.c 32)) .ff))))))) true, .le (.a 5) 2147483647, .ge (.a 5) (-2147483648), .ne (.a 31) 16, .ge (.a 31) 0]) : LawL 6 val :=
  leafCL h (fun sla => by kernel_rfl)

theorem canonN_52 (val : Nat → Int) (h : Holds val [.ge (.a 31) 21, .is (.a 1) 4, .is (.a 4) 1, .is (.a 3) 4, .at (.or (.eq (.a 4) (.c 1)) (.or (.eq (.a 4) (.c 2)) (.or (.eq (.a 4) (.c 4)) (.or (.eq (.a 4) (.c 8)) .ff)))) true, .le (.a 3) 15, .ge (.a 3) 0, .is (.a 2) 5, .ne (.a 2) 0, .le (.a 1) 15, .ge (.a 1) 0, .is (.a 0) 5, .ne (.a 0) 8, .ne (.a 0) 0, .at (.or (.eq (.a 6) (.c 0)) (.or (.eq (.a 6) (.c 1)) (.or (.eq (.a 6) (.c 2)) (.or (.eq (.a 6) (.c 4)) (.or (.eq (.a 6) (.c 8)) (.or (.eq (.a 6) (.c 16)) (.or (.eq (.a 6) (.c 32)) .ff))))))) true, .le (.a 5) 2147483647, .ge (.a 5) (-2147483648), .ne (.a 31) 16, .ge (.a 31) 0]) : LawL 6 val :=
  leafCL h (fun sla => by kernel_rfl)

theorem canonN_53 (val : Nat → Int) (h : Holds val [.le (.a 31) 20, .is (.a 1) 4, .is (.a 4) 1, .is (.a 3) 4, .at (.or (.eq (.a 4) (.c 1)) (.or (.eq (.a 4) (.c 2)) (.or (.eq (.a 4) (.c 4)) (.or (.eq (.a 4) (.c 8)) .ff)))) true, .le (.a 3) 15, .ge (.a 3) 0, .is (.a 2) 5, .ne (.a 2) 0, .le (.a 1) 15, .ge (.a 1) 0, .is (.a 0) 5, .ne (.a 0) 8, .ne (.a 0) 0, .at (.or (.eq (.a 6) (.c 0)) (.or (.eq (.a 6) (.c 1)) (.or (.eq (.a 6) (.c 2)) (.or (.eq (.a 6) (.c 4)) (.or (.eq (.a 6) (.c 8)) (.or (.eq (.a 6) (.c 16)) (.or (.eq (.a 6) (.c 32)) .ff))))))) true, .le (.a 5) 2147483647, .ge (.a 5) (-2147483648), .ne (.a 31) 16, .ge (.a 31) 0]) : LawL 6 val :=
  leafCL h (fun sla => by kernel_rfl)

theorem canonN_54 (val : Nat → Int) (h : Holds val [.ge (.a 31) 21, .ne (.a 1) 4, .is (.a 4) 1, .is (.a 3) 4, .at (.or (.eq (.a 4) (.c 1)) (.or (.eq (.a 4) (.c 2)) (.or (.eq (.a 4) (.c 4)) (.or (.eq (.a 4) (.c 8)) .ff)))) true, .le (.a 3) 15, .ge (.a 3) 0, .is (.a 2) 5, .ne (.a 2) 0, .le (.a 1) 15, .ge (.a 1) 0, .is (.a 0) 5, .ne (.a 0) 8, .ne (.a 0) 0, .at (.or (.eq (.a 6) (.c 0)) (.or (.eq (.a 6) (.c 1)) (.or (.eq (.a 6) (.c 2)) (.or (.eq (.a 6) (.c 4)) (.or (.eq (.a 6) (.c 8)) (.or (.eq (.a 6) (.c 16)) (.or (.eq (.a 6) (.c 32)) .ff))))))) true, .le (.a 5) 2147483647, .ge (.a 5) (-2147483648), .ne (.a 31) 16, .ge (.a 31) 0]) : LawL 6 val :=
  leafCL h (fun sla => by kernel_rfl)

theorem canonN_55 (val : Nat → Int) (h : Holds val [.le (.a 31) 20, .ne (.a 1) 4, .is (.a 4) 1, .is (.a 3) 4, .at (.or (.eq (.a 4) (.c 1)) (.or (.eq (.a 4) (.c 2)) (.or (.eq (.a 4) (.c 4)) (.or (.eq (.a 4) (.c 8)) .ff)))) true, .le (.a 3) 15, .ge (.a 3) 0, .is (.a 2) 5, .ne (.a 2) 0, .le (.a 1) 15, .ge (.a 1) 0, .is (.a 0) 5, .ne (.a 0) 8, .ne (.a 0) 0, .at (.or (.eq (.a 6) (.c 0)) (.or (.eq (.a 6) (.c 1)) (.or (.eq (.a 6) (.c 2)) (.or (.eq (.a 6) (.c 4)) (.or (.eq (.a 6) (.c 8)) (.or (.eq (.a 6) (.c 16)) (.or (.eq (.a 6) (.c 32)) .ff))))))) true, .le (.a 5) 2147483647, .ge (.a 5) (-2147483648), .ne (.a 31) 16, .ge (.a 31) 0]) : LawL 6 val :=
  leafCL h (fun sla => by kernel_rfl)

theorem canonN_56 (val : Nat → Int) (h : Holds val [.ge (.a 31) 21, .ne (.a 4) 1, .is (.a 3) 4, .at (.or (.eq (.a 4) (.c 1)) (.or (.eq (.a 4) (.c 2)) (.or (.eq (.a 4) (.c 4)) (.or (.eq (.a 4) (.c 8)) .ff)))) true, .le (.a 3) 15, .ge (.a 3) 0, .is (.a 2) 5, .ne (.a 2) 0, .le (.a 1) 15, .ge (.a 1) 0, .is (.a 0) 5, .ne (.a 0) 8, .ne (.a 0) 0, .at (.or (.eq (.a 6) (.c 0)) (.or (.eq (.a 6) (.c 1)) (.or (.eq (.a 6) (.c 2)) (.or (.eq (.a 6) (.c 4)) (.or (.eq (.a 6) (.c 8)) (.or (.eq (.a 6) (.c 16)) (.or (.eq (.a 6) (.c 32)) .ff))))))) true, .le (.a 5) 2147483647, .ge (.a 5) (-2147483648), .ne (.a 31) 16, .ge (.a 31) 0]) : LawL 6 val :=
  leafCL h (fun sla => by kernel_rfl)

theorem canonN_57 (val : Nat → Int) (h : Holds val [.le (.a 31) 20, .ne (.a 4) 1, .is (.a 3) 4, .at (.or (.eq (.a 4) (.c 1)) (.or (.eq (.a 4) (.c 2)) (.or (.eq (.a 4) (.c 4)) (.or (.eq (.a 4) (.c 8)) .ff)))) true, .le (.a 3) 15, .ge (.a 3) 0, .is (.a 2) 5, .ne (.a 2) 0, .le (.a 1) 15, .ge (.a 1) 0, .is (.a 0) 5, .ne (.a 0) 8, .ne (.a 0) 0, .at (.or (.eq (.a 6) (.c 0)) (.or (.eq (.a 6) (.c 1)) (.or (.eq (.a 6) (.c 2)) (.or (.eq (.a 6) (.c 4)) (.or (.eq (.a 6) (.c 8)) (.or (.eq (.a 6) (.c 16)) (.or (.eq (.a 6) (.c 32)) .ff))))))) true, .le (.a 5) 2147483647, .ge (.a 5) (-2147483648), .ne (.a 31) 16, .ge (.a 31) 0]) : LawL 6 val :=
  leafCL h (fun sla => by kernel_rfl)

theorem canonN_58 (val : Nat → Int) (h : Holds val [.ge (.a 31) 21, .is (.a 4) 1, .ne (.a 3) 4, .at (.or (.eq (.a 4) (.c 1)) (.or (.eq (.a 4) (.c 2)) (.or (.eq (.a 4) (.c 4)) (.or (.eq (.a 4) (.c 8)) .ff)))) true, .le (.a 3) 15, .ge (.a 3) 0, .is (.a 2) 5, .ne (.a 2) 0, .le (.a 1) 15, .ge (.a 1) 0, .is (.a 0) 5, .ne (.a 0) 8, .ne (.a 0) 0, .at (.or (.eq (.a 6) (.c 0)) (.or (.eq (.a 6) (.c 1)) (.or (.eq (.a 6) (.c 2)) (.or (.eq (.a 6) (.c 4)) (.or (.eq (.a 6) (.c 8)) (.or (.eq (.a 6) (.c 16)) (.or (.eq (.a 6) (.c 32)) .ff))))))) true, .le (.a 5) 2147483647, .ge (.a 5) (-2147483648), .ne (.a 31) 16, .ge (.a 31) 0]) : LawL 6 val :=
  leafCL h (fun sla => by kernel_rfl)

theorem canonN_59 (val : Nat → Int) (h : Holds val [.le (.a 31) 20, .is (.a 4) 1, .ne (.a 3) 4, .at (.or (.eq (.a 4) (.c 1)) (.or (.eq (.a 4) (.c 2)) (.or (.eq (.a 4) (.c 4)) (.or (.eq (.a 4) (.c 8)) .ff)))) true, .le (.a 3) 15, .ge (.a 3) 0, .is (.a 2) 5, .ne (.a 2) 0, .le (.a 1) 15, .ge (.a 1) 0, .is (.a 0) 5, .ne (.a 0) 8, .ne (.a 0) 0, .at (.or (.eq (.a 6) (.c 0)) (.or (.eq (.a 6) (.c 1)) (.or (.eq (.a 6) (.c 2)) (.or (.eq (.a 6) (.c 4)) (.or (.eq (.a 6) (.c 8)) (.or (.eq (.a 6) (.c 16)) (.or (.eq (.a 6) (.c 32)) .ff))))))) true, .le (.a 5) 2147483647, .ge (.a 5) (-2147483648), .ne (.a 31) 16, .ge (.a 31) 0]) : LawL 6 val :=
  leafCL h (fun sla => by kernel_rfl)

theorem canonN_60 (val : Nat → Int) (h : Holds val [.ge (.a 31) 21, .ne (.a 4) 1, .ne (.a 3) 4, .at (.or (.eq (.a 4) (.c 1)) (.or (.eq (.a 4) (.c 2)) (.or (.eq (.a 4) (.c 4)) (.or (.eq (.a 4) (.c 8)) .ff)))) true, .le (.a 3) 15, .ge (.a 3) 0, .is (.a 2) 5, .ne (.a 2) 0, .le (.a 1) 15, .ge (.a 1) 0, .is (.a 0) 5, .ne (.a 0) 8, .ne (.a 0) 0, .at (.or (.eq (.a 6) (.c 0)) (.or (.eq (.a 6) (.c 1)) (.or (.eq (.a 6) (.c 2)) (.or (.eq (.a 6) (.c 4)) (.or (.eq (.a 6) (.c 8)) (.or (.eq (.a 6) (.c 16)) (.or (.eq (.a 6) (.c 32)) .ff))))))) true, .le (.a 5) 2147483647, .ge (.a 5) (-2147483648), .ne (.a 31) 16, .ge (.a 31) 0]) : LawL 6 val :=
  leafCL h (fun sla => by kernel_rfl)

theorem canonN_61 (val : Nat → Int) (h : Holds val [.le (.a 31) 20, .ne (.a 4) 1, .ne (.a 3) 4, .at (.or (.eq (.a 4) (.c 1)) (.or (.eq (.a 4) (.c 2)) (.or (.eq (.a 4) (.c 4)) (.or (.eq (.a 4) (.c 8)) .ff)))) true, .le (.a 3) 15, .ge (.a 3) 0, .is (.a 2) 5, .ne (.a 2) 0, .le (.a 1) 15, .ge (.a 1) 0, .is (.a 0) 5, .ne (.a 0) 8, .ne (.a 0) 0, .at (.or (.eq (.a 6) (.c 0)) (.or (.eq (.a 6) (.c 1)) (.or (.eq (.a 6) (.c 2)) (.or (.eq (.a 6) (.c 4)) (.or (.eq (.a 6) (.c 8)) (.or (.eq (.a 6) (.c 16)) (.or (.eq (.a 6) (.c 32)) .ff))))))) true, .le (.a 5) 2147483647, .ge (.a 5) (-2147483648), .ne (.a 31) 16, .ge (.a 31) 0]) : LawL 6 val :=
  leafCL h (fun sla => by kernel_rfl)

theorem canonN_62 (val : Nat → Int) (h : Holds val [.ge (.a 31) 21, .at (.or (.eq (.a 4) (.c 1)) (.or (.eq (.a 4) (.c 2)) (.or (.eq (.a 4) (.c 4)) (.or (.eq (.a 4) (.c 8)) .ff)))) false, .le (.a 3) 15, .ge (.a 3) 0, .is (.a 2) 5, .ne (.a 2) 0, .le (.a 1) 15, .ge (.a 1) 0, .is (.a 0) 5, .ne (.a 0) 8, .ne (.a 0) 0, .at (.or (.eq (.a 6) (.c 0)) (.or (.eq (.a 6) (.c 1)) (.or (.eq (.a 6) (.c 2)) (.or (.eq (.a 6) (.c 4)) (.or (.eq (.a 6) (.c 8)) (.or (.eq (.a 6) (.c 16)) (.or (.eq (.a 6) (.c 32)) .ff))))))) true, .le (.a 5) 2147483647, .ge (.a 5) (-2147483648), .ne (.a 31) 16, .ge (.a 31) 0]) : LawL 6 val :=
  leafCL h (fun sla => by kernel_rfl)

theorem canonN_63 (val : Nat → Int) (h : Holds val [.le (.a 31) 20, .at (.or (.eq (.a 4) (.c 1)) (.or (.eq (.a 4) (.c 2)) (.or (.eq (.a 4) (.c 4)) (.or (.eq (.a 4) (.c 8)) .ff)))) false, .le (.a 3) 15, .ge (.a 3) 0, .is (.a 2) 5, .ne (.a 2) 0, .le (.a 1) 15, .ge (.a 1) 0, .is (.a 0) 5, .ne (.a 0) 8, .ne (.a 0) 0, .at (.or (.eq (.a 6) (.c 0)) (.or (.eq (.a 6) (.c 1)) (.or (.eq (.a 6) (.c 2)) (.or (.eq (.a 6) (.c 4)) (.or (.eq (.a 6) (.c 8)) (.or (.eq (.a 6) (.c 16)) (.or (.eq (.a 6) (.c 32)) .ff))))))) true, .le (.a 5) 2147483647, .ge (.a 5) (-2147483648), .ne (.a 31) 16, .ge (.a 31) 0]) : LawL 6 val :=
  leafCL h (fun sla => by kernel_rfl)

theorem canonN_64 (val : Nat → Int) (h : Holds val [.ge (.a 31) 21, .ge (.a 3) 16, .ge (.a 3) 0, .is (.a 2) 5, .ne (.a 2) 0, .le (.a 1) 15, .ge (.a 1) 0, .is (.a 0) 5, .ne (.a 0) 8, .ne (.a 0) 0, .at (.or (.eq (.a 6) (.c 0)) (.or (.eq (.a 6) (.c 1)) (.or (.eq (.a 6) (.c 2)) (.or (.eq (.a 6) (.c 4)) (.or (.eq (.a 6) (.c 8)) (.or (.eq (.a 6) (.c 16)) (.or (.eq (.a 6) (.c 32)) .ff))))))) true, .le (.a 5) 2147483647, .ge (.a 5) (-2147483648), .ne (.a 31) 16, .ge (.a 31) 0]) : LawL 6 val :=
  leafCL h (fun sla => by kernel_rfl)

theorem canonN_65 (val : Nat → Int) (h : Holds val [.le (.a 31) 20, .ge (.a 3) 16, .ge (.a 3) 0, .is (.a 2) 5, .ne (.a 2) 0, .le (.a 1) 15, .ge (.a 1) 0, .is (.a 0) 5, .ne (.a 0) 8, .ne (.a 0) 0, .at (.or (.eq (.a 6) (.c 0)) (.or (.eq (.a 6) (.c 1)) (.or (.eq (.a 6) (.c 2)) (.or (.eq (.a 6) (.c 4)) (.or (.eq (.a 6) (.c 8)) (.or (.eq (.a 6) (.c 16)) (.or (.eq (.a 6) (.c 32)) .ff))))))) true, .le (.a 5) 2147483647, .ge (.a 5) (-2147483648), .ne (.a 31) 16, .ge (.a 31) 0]) : LawL 6 val :=
  leafCL h (fun sla => by kernel_rfl)

theorem canonN_66 (val : Nat → Int) (h : Holds val [.ge (.a 31) 21, .le (.a 3) (-1), .is (.a 2) 5, .ne (.a 2) 0, .le (.a 1) 15, .ge (.a 1) 0, .is (.a 0) 5, .ne (.a 0) 8, .ne (.a 0) 0, .at (.or (.eq (.a 6) (.c 0)) (.or (.eq (.a 6) (.c 1)) (.or (.eq (.a 6) (.c 2)) (.or (.eq (.a 6) (.c 4)) (.or (.eq (.a 6) (.c 8)) (.or (.eq (.a 6) (.c 16)) (.or (.eq (.a 6) (.c 32)) .ff))))))) true, .le (.a 5) 2147483647, .ge (.a 5) (-2147483648), .ne (.a 31) 16, .ge (.a 31) 0]) : LawL 6 val :=
  leafCL h (fun sla => by kernel_rfl)

theorem canonN_67 (val : Nat → Int) (h : Holds val [.le (.a 31) 20, .le (.a 3) (-1), .is (.a 2) 5, .ne (.a 2) 0, .le (.a 1) 15, .ge (.a 1) 0, .is (.a 0) 5, .ne (.a 0) 8, .ne (.a 0) 0, .at (.or (.eq (.a 6) (.c 0)) (.or (.eq (.a 6) (.c 1)) (.or (.eq (.a 6) (.c 2)) (.or (.eq (.a 6) (.c 4)) (.or (.eq (.a 6) (.c 8)) (.or (.eq (.a 6) (.c 16)) (.or (.eq (.a 6) (.c 32)) .ff))))))) true, .le (.a 5) 2147483647, .ge (.a 5) (-2147483648), .ne (.a 31) 16, .ge (.a 31) 0]) : LawL 6 val :=
  leafCL h (fun sla => by kernel_rfl)

theorem canonN_68 (val : Nat → Int) (h : Holds val [.ge (.a 31) 21, .ne (.a 2) 5, .ne (.a 2) 0, .le (.a 1) 15, .ge (.a 1) 0, .is (.a 0) 5, .ne (.a 0) 8, .ne (.a 0) 0, .at (.or (.eq (.a 6) (.c 0)) (.or (.eq (.a 6) (.c 1)) (.or (.eq (.a 6) (.c 2)) (.or (.eq (.a 6) (.c 4)) (.or (.eq (.a 6) (.c 8)) (.or (.eq (.a 6) (.c 16)) (.or (.eq (.a 6) (.c 32)) .ff))))))) true, .le (.a 5) 2147483647, .ge (.a 5) (-2147483648), .ne (.a 31) 16, .ge (.a 31) 0]) : LawL 6 val :=
  leafCL h (fun sla => by kernel_rfl)

theorem canonN_69 (val : Nat → Int) (h : Holds val [.le (.a 31) 20, .ne (.a 2) 5, .ne (.a 2) 0, .le (.a 1) 15, .ge (.a 1) 0, .is (.a 0) 5, .ne (.a 0) 8, .ne (.a 0) 0, .at (.or (.eq (.a 6) (.c 0)) (.or (.eq (.a 6) (.c 1)) (.or (.eq (.a 6) (.c 2)) (.or (.eq (.a 6) (.c 4)) (.or (.eq (.a 6) (.c 8)) (.or (.eq (.a 6) (.c 16)) (.or (.eq (.a 6) (.c 32)) .ff))))))) true, .le (.a 5) 2147483647, .ge (.a 5) (-2147483648), .ne (.a 31) 16, .ge (.a 31) 0]) : LawL 6 val :=
  leafCL h (fun sla => by kernel_rfl)

theorem canonN_70 (val : Nat → Int) (h : Holds val [.ge (.a 31) 21, .ge (.a 1) 16, .ge (.a 1) 0, .is (.a 0) 5, .ne (.a 0) 8, .ne (.a 0) 0, .at (.or (.eq (.a 6) (.c 0)) (.or (.eq (.a 6) (.c 1)) (.or (.eq (.a 6) (.c 2)) (.or (.eq (.a 6) (.c 4)) (.or (.eq (.a 6) (.c 8)) (.or (.eq (.a 6) (.c 16)) (.or (.eq (.a 6) (.c 32)) .ff))))))) true, .le (.a 5) 2147483647, .ge (.a 5) (-2147483648), .ne (.a 31) 16, .ge (.a 31) 0]) : LawL 6 val :=
  leafCL h (fun sla => by kernel_rfl)

theorem canonN_71 (val : Nat → Int) (h : Holds val [.le (.a 31) 20, .ge (.a 1) 16, .ge (.a 1) 0, .is (.a 0) 5, .ne (.a 0) 8, .ne (.a 0) 0, .at (.or (.eq (.a 6) (.c 0)) (.or (.eq (.a 6) (.c 1)) (.or (.eq (.a 6) (.c 2)) (.or (.eq (.a 6) (.c 4)) (.or (.eq (.a 6) (.c 8)) (.or (.eq (.a 6) (.c 16)) (.or (.eq (.a 6) (.c 32)) .ff))))))) true, .le (.a 5) 2147483647, .ge (.a 5) (-2147483648), .ne (.a 31) 16, .ge (.a 31) 0]) : LawL 6 val :=
  leafCL h (fun sla => by kernel_rfl)

theorem canonN_72 (val : Nat → Int) (h : Holds val [.ge (.a 31) 21, .le (.a 1) (-1), .is (.a 0) 5, .ne (.a 0) 8, .ne (.a 0) 0, .at (.or (.eq (.a 6) (.c 0)) (.or (.eq (.a 6) (.c 1)) (.or (.eq (.a 6) (.c 2)) (.or (.eq (.a 6) (.c 4)) (.or (.eq (.a 6) (.c 8)) (.or (.eq (.a 6) (.c 16)) (.or (.eq (.a 6) (.c 32)) .ff))))))) true, .le (.a 5) 2147483647, .ge (.a 5) (-2147483648), .ne (.a 31) 16, .ge (.a 31) 0]) : LawL 6 val :=
  leafCL h (fun sla => by kernel_rfl)

theorem canonN_73 (val : Nat → Int) (h : Holds val [.le (.a 31) 20, .le (.a 1) (-1), .is (.a 0) 5, .ne (.a 0) 8, .ne (.a 0) 0, .at (.or (.eq (.a 6) (.c 0)) (.or (.eq (.a 6) (.c 1)) (.or (.eq (.a 6) (.c 2)) (.or (.eq (.a 6) (.c 4)) (.or (.eq (.a 6) (.c 8)) (.or (.eq (.a 6) (.c 16)) (.or (.eq (.a 6) (.c 32)) .ff))))))) true, .le (.a 5) 2147483647, .ge (.a 5) (-2147483648), .ne (.a 31) 16, .ge (.a 31) 0]) : LawL 6 val :=
  leafCL h (fun sla => by kernel_rfl)

theorem canonN_74 (val : Nat → Int) (h : Holds val [.ge (.a 31) 21, .ne (.a 0) 5, .ne (.a 0) 8, .ne (.a 0) 0, .at (.or (.eq (.a 6) (.c 0)) (.or (.eq (.a 6) (.c 1)) (.or (.eq (.a 6) (.c 2)) (.or (.eq (.a 6) (.c 4)) (.or (.eq (.a 6) (.c 8)) (.or (.eq (.a 6) (.c 16)) (.or (.eq (.a 6) (.c 32)) .ff))))))) true, .le (.a 5) 2147483647, .ge (.a 5) (-2147483648), .ne (.a 31) 16, .ge (.a 31) 0]) : LawL 6 val :=
  leafCL h (fun sla => by kernel_rfl)

theorem canonN_75 (val : Nat → Int) (h : Holds val [.le (.a 31) 20, .ne (.a 0) 5, .ne (.a 0) 8, .ne (.a 0) 0, .at (.or (.eq (.a 6) (.c 0)) (.or (.eq (.a 6) (.c 1)) (.or (.eq (.a 6) (.c 2)) (.or (.eq (.a 6) (.c 4)) (.or (.eq (.a 6) (.c 8)) (.or (.eq (.a 6) (.c 16)) (.or (.eq (.a 6) (.c 32)) .ff))))))) true, .le (.a 5) 2147483647, .ge (.a 5) (-2147483648), .ne (.a 31) 16, .ge (.a 31) 0]) : LawL 6 val :=
  leafCL h (fun sla => by kernel_rfl)

theorem canonN_76 (val : Nat → Int) (h : Holds val [.ge (.a 31) 21, .at (.or (.eq (.a 6) (.c 0)) (.or (.eq (.a 6) (.c 1)) (.or (.eq (.a 6) (.c 2)) (.or (.eq (.a 6) (.c 4)) (.or (.eq (.a 6) (.c 8)) (.or (.eq (.a 6) (.c 16)) (.or (.eq (.a 6) (.c 32)) .ff))))))) false, .le (.a 5) 2147483647, .ge (.a 5) (-2147483648), .ne (.a 31) 16, .ge (.a 31) 0]) : LawL 6 val :=
  leafCL h (fun sla => by kernel_rfl)

theorem canonN_77 (val : Nat → Int) (h : Holds val [.le (.a 31) 20, .at (.or (.eq (.a 6) (.c 0)) (.or (.eq (.a 6) (.c 1)) (.or (.eq (.a 6) (.c 2)) (.or (.eq (.a 6) (.c 4)) (.or (.eq (.a 6) (.c 8)) (.or (.eq (.a 6) (.c 16)) (.or (.eq (.a 6) (.c 32)) .ff))))))) false, .le (.a 5) 2147483647, .ge (.a 5) (-2147483648), .ne (.a 31) 16, .ge (.a 31) 0]) : LawL 6 val :=
  leafCL h (fun sla => by kernel_rfl)

theorem canonNSub3 (val : Nat → Int) (h : Holds val [.is (.a 2) 5, .ne (.a 2) 0, .is (.a 1) 0, .is (.a 0) 0, .at (.or (.eq (.a 6) (.c 0)) (.or (.eq (.a 6) (.c 1)) (.or (.eq (.a 6) (.c 2)) (.or (.eq (.a 6) (.c 4)) (.or (.eq (.a 6) (.c 8)) (.or (.eq (.a 6) (.c 16)) (.or (.eq (.a 6) (.c 32)) .ff))))))) true, .le (.a 5) 2147483647, .ge (.a 5) (-2147483648), .ne (.a 31) 16, .ge (.a 31) 0]) : LawL 6 val :=
  by_way (.le (.c 0) (.a 3)) (.ge (.a 3) 0) (.le (.a 3) (-1)) (by kernel_rfl) (by kernel_rfl) h
  (fun h => by_way (.lt (.a 3) (.c 16)) (.le (.a 3) 15) (.ge (.a 3) 16) (by kernel_rfl) (by kernel_rfl) h
  (fun h => by_way (.or (.eq (.a 4) (.c 1)) (.or (.eq (.a 4) (.c 2)) (.or (.eq (.a 4) (.c 4)) (.or (.eq (.a 4) (.c 8)) .ff)))) (.at (.or (.eq (.a 4) (.c 1)) (.or (.eq (.a 4) (.c 2)) (.or (.eq (.a 4) (.c 4)) (.or (.eq (.a 4) (.c 8)) .ff)))) true) (.at (.or (.eq (.a 4) (.c 1)) (.or (.eq (.a 4) (.c 2)) (.or (.eq (.a 4) (.c 4)) (.or (.eq (.a 4) (.c 8)) .ff)))) false) (by kernel_rfl) (by kernel_rfl) h
  (fun h => by_way (.eq (.a 3) (.c 4)) (.is (.a 3) 4) (.ne (.a 3) 4) (by kernel_rfl) (by kernel_rfl) h
  (fun h => by_way (.eq (.a 4) (.c 1)) (.is (.a 4) 1) (.ne (.a 4) 1) (by kernel_rfl) (by kernel_rfl) h
  (fun h => by_way (.lt (.c 20) (.a 31)) (.ge (.a 31) 21) (.le (.a 31) 20) (by kernel_rfl) (by kernel_rfl) h
  (fun h => canonN_10 val h)
  (fun h => canonN_11 val h))
  (fun h => by_way (.lt (.c 20) (.a 31)) (.ge (.a 31) 21) (.le (.a 31) 20) (by kernel_rfl) (by kernel_rfl) h
  (fun h => canonN_12 val h)
  (fun h => canonN_13 val h)))
  (fun h => by_way (.eq (.a 4) (.c 1)) (.is (.a 4) 1) (.ne (.a 4) 1) (by kernel_rfl) (by kernel_rfl) h
  (fun h => by_way (.lt (.c 20) (.a 31)) (.ge (.a 31) 21) (.le (.a 31) 20) (by kernel_rfl) (by kernel_rfl) h
  (fun h => canonN_14 val h)
  (fun h => canonN_15 val h))
  (fun h => by_way (.lt (.c 20) (.a 31)) (.ge (.a 31) 21) (.le (.a 31) 20) (by kernel_rfl) (by kernel_rfl) h
  (fun h => canonN_16 val h)
  (fun h => canonN_17 val h))))
  (fun h => by_way (.lt (.c 20) (.a 31)) (.ge (.a 31) 21) (.le (.a 31) 20) (by kernel_rfl) (by kernel_rfl) h
  (fun h => canonN_18 val h)
  (fun h => canonN_19 val h)))
  (fun h => by_way (.lt (.c 20) (.a 31)) (.ge (.a 31) 21) (.le (.a 31) 20) (by kernel_rfl) (by kernel_rfl) h
  (fun h => canonN_20 val h)
  (fun h => canonN_21 val h)))
  (fun h => by_way (.lt (.c 20) (.a 31)) (.ge (.a 31) 21) (.le (.a 31) 20) (by kernel_rfl) (by kernel_rfl) h
  (fun h => canonN_22 val h)
  (fun h => canonN_23 val h))

theorem canonNSub2 (val : Nat → Int) (h : Holds val [.ne (.a 2) 0, .is (.a 1) 0, .is (.a 0) 0, .at (.or (.eq (.a 6) (.c 0)) (.or (.eq (.a 6) (.c 1)) (.or (.eq (.a 6) (.c 2)) (.or (.eq (.a 6) (.c 4)) (.or (.eq (.a 6) (.c 8)) (.or (.eq (.a 6) (.c 16)) (.or (.eq (.a 6) (.c 32)) .ff))))))) true, .le (.a 5) 2147483647, .ge (.a 5) (-2147483648), .ne (.a 31) 16, .ge (.a 31) 0]) : LawL 6 val :=
  by_way (.eq (.a 2) (.c 5)) (.is (.a 2) 5) (.ne (.a 2) 5) (by kernel_rfl) (by kernel_rfl) h
  (fun h => canonNSub3 val h)
  (fun h => by_way (.lt (.c 20) (.a 31)) (.ge (.a 31) 21) (.le (.a 31) 20) (by kernel_rfl) (by kernel_rfl) h
  (fun h => canonN_24 val h)
  (fun h => canonN_25 val h))

theorem canonNSub1 (val : Nat → Int) (h : Holds val [.is (.a 1) 0, .is (.a 0) 0, .at (.or (.eq (.a 6) (.c 0)) (.or (.eq (.a 6) (.c 1)) (.or (.eq (.a 6) (.c 2)) (.or (.eq (.a 6) (.c 4)) (.or (.eq (.a 6) (.c 8)) (.or (.eq (.a 6) (.c 16)) (.or (.eq (.a 6) (.c 32)) .ff))))))) true, .le (.a 5) 2147483647, .ge (.a 5) (-2147483648), .ne (.a 31) 16, .ge (.a 31) 0]) : LawL 6 val :=
  by_way (.eq (.a 2) (.c 0)) (.is (.a 2) 0) (.ne (.a 2) 0) (by kernel_rfl) (by kernel_rfl) h
  (fun h => by_way (.eq (.a 3) (.c 0)) (.is (.a 3) 0) (.ne (.a 3) 0) (by kernel_rfl) (by kernel_rfl) h
  (fun h => by_way (.eq (.a 4) (.c 0)) (.is (.a 4) 0) (.ne (.a 4) 0) (by kernel_rfl) (by kernel_rfl) h
  (fun h => by_way (.lt (.c 20) (.a 31)) (.ge (.a 31) 21) (.le (.a 31) 20) (by kernel_rfl) (by kernel_rfl) h
  (fun h => canonN_4 val h)
  (fun h => canonN_5 val h))
  (fun h => by_way (.lt (.c 20) (.a 31)) (.ge (.a 31) 21) (.le (.a 31) 20) (by kernel_rfl) (by kernel_rfl) h
  (fun h => canonN_6 val h)
  (fun h => canonN_7 val h)))
  (fun h => by_way (.lt (.c 20) (.a 31)) (.ge (.a 31) 21) (.le (.a 31) 20) (by kernel_rfl) (by kernel_rfl) h
  (fun h => canonN_8 val h)
  (fun h => canonN_9 val h)))
  (fun h => canonNSub2 val h)

theorem canonNSub0 (val : Nat → Int) (h : Holds val [.is (.a 0) 0, .at (.or (.eq (.a 6) (.c 0)) (.or (.eq (.a 6) (.c 1)) (.or (.eq (.a 6) (.c 2)) (.or (.eq (.a 6) (.c 4)) (.or (.eq (.a 6) (.c 8)) (.or (.eq (.a 6) (.c 16)) (.or (.eq (.a 6) (.c 32)) .ff))))))) true, .le (.a 5) 2147483647, .ge (.a 5) (-2147483648), .ne (.a 31) 16, .ge (.a 31) 0]) : LawL 6 val :=
  by_way (.eq (.a 1) (.c 0)) (.is (.a 1) 0) (.ne (.a 1) 0) (by kernel_rfl) (by kernel_rfl) h
  (fun h => canonNSub1 val h)
  (fun h => by_way (.lt (.c 20) (.a 31)) (.ge (.a 31) 21) (.le (.a 31) 20) (by kernel_rfl) (by kernel_rfl) h
  (fun h => canonN_26 val h)
  (fun h => canonN_27 val h))

theorem canonNSub6 (val : Nat → Int) (h : Holds val [.is (.a 1) 0, .is (.a 0) 8, .ne (.a 0) 0, .at (.or (.eq (.a 6) (.c 0)) (.or (.eq (.a 6) (.c 1)) (.or (.eq (.a 6) (.c 2)) (.or (.eq (.a 6) (.c 4)) (.or (.eq (.a 6) (.c 8)) (.or (.eq (.a 6) (.c 16)) (.or (.eq (.a 6) (.c 32)) .ff))))))) true, .le (.a 5) 2147483647, .ge (.a 5) (-2147483648), .ne (.a 31) 16, .ge (.a 31) 0]) : LawL 6 val :=
  by_way (.eq (.a 2) (.c 0)) (.is (.a 2) 0) (.ne (.a 2) 0) (by kernel_rfl) (by kernel_rfl) h
  (fun h => by_way (.eq (.a 3) (.c 0)) (.is (.a 3) 0) (.ne (.a 3) 0) (by kernel_rfl) (by kernel_rfl) h
  (fun h => by_way (.eq (.a 4) (.c 0)) (.is (.a 4) 0) (.ne (.a 4) 0) (by kernel_rfl) (by kernel_rfl) h
  (fun h => by_way (.lt (.c 20) (.a 31)) (.ge (.a 31) 21) (.le (.a 31) 20) (by kernel_rfl) (by kernel_rfl) h
  (fun h => canonN_28 val h)
  (fun h => canonN_29 val h))
  (fun h => by_way (.lt (.c 20) (.a 31)) (.ge (.a 31) 21) (.le (.a 31) 20) (by kernel_rfl) (by kernel_rfl) h
  (fun h => canonN_30 val h)
  (fun h => canonN_31 val h)))
  (fun h => by_way (.lt (.c 20) (.a 31)) (.ge (.a 31) 21) (.le (.a 31) 20) (by kernel_rfl) (by kernel_rfl) h
  (fun h => canonN_32 val h)
  (fun h => canonN_33 val h)))
  (fun h => by_way (.eq (.a 2) (.c 5)) (.is (.a 2) 5) (.ne (.a 2) 5) (by kernel_rfl) (by kernel_rfl) h
  (fun h => by_way (.le (.c 0) (.a 3)) (.ge (.a 3) 0) (.le (.a 3) (-1)) (by kernel_rfl) (by kernel_rfl) h
  (fun h => by_way (.lt (.a 3) (.c 16)) (.le (.a 3) 15) (.ge (.a 3) 16) (by kernel_rfl) (by kernel_rfl) h
  (fun h => by_way (.or (.eq (.a 4) (.c 1)) (.or (.eq (.a 4) (.c 2)) (.or (.eq (.a 4) (.c 4)) (.or (.eq (.a 4) (.c 8)) .ff)))) (.at (.or (.eq (.a 4) (.c 1)) (.or (.eq (.a 4) (.c 2)) (.or (.eq (.a 4) (.c 4)) (.or (.eq (.a 4) (.c 8)) .ff)))) true) (.at (.or (.eq (.a 4) (.c 1)) (.or (.eq (.a 4) (.c 2)) (.or (.eq (.a 4) (.c 4)) (.or (.eq (.a 4) (.c 8)) .ff)))) false) (by kernel_rfl) (by kernel_rfl) h
  (fun h => by_way (.lt (.c 20) (.a 31)) (.ge (.a 31) 21) (.le (.a 31) 20) (by kernel_rfl) (by kernel_rfl) h
  (fun h => canonN_34 val h)
  (fun h => canonN_35 val h))
  (fun h => by_way (.lt (.c 20) (.a 31)) (.ge (.a 31) 21) (.le (.a 31) 20) (by kernel_rfl) (by kernel_rfl) h
  (fun h => canonN_36 val h)
  (fun h => canonN_37 val h)))
  (fun h => by_way (.lt (.c 20) (.a 31)) (.ge (.a 31) 21) (.le (.a 31) 20) (by kernel_rfl) (by kernel_rfl) h
  (fun h => canonN_38 val h)
  (fun h => canonN_39 val h)))
  (fun h => by_way (.lt (.c 20) (.a 31)) (.ge (.a 31) 21) (.le (.a 31) 20) (by kernel_rfl) (by kernel_rfl) h
  (fun h => canonN_40 val h)
  (fun h => canonN_41 val h)))
  (fun h => by_way (.lt (.c 20) (.a 31)) (.ge (.a 31) 21) (.le (.a 31) 20) (by kernel_rfl) (by kernel_rfl) h
  (fun h => canonN_42 val h)
  (fun h => canonN_43 val h)))

theorem canonNSub5 (val : Nat → Int) (h : Holds val [.is (.a 0) 8, .ne (.a 0) 0, .at (.or (.eq (.a 6) (.c 0)) (.or (.eq (.a 6) (.c 1)) (.or (.eq (.a 6) (.c 2)) (.or (.eq (.a 6) (.c 4)) (.or (.eq (.a 6) (.c 8)) (.or (.eq (.a 6) (.c 16)) (.or (.eq (.a 6) (.c 32)) .ff))))))) true, .le (.a 5) 2147483647, .ge (.a 5) (-2147483648), .ne (.a 31) 16, .ge (.a 31) 0]) : LawL 6 val :=
  by_way (.eq (.a 1) (.c 0)) (.is (.a 1) 0) (.ne (.a 1) 0) (by kernel_rfl) (by kernel_rfl) h
  (fun h => canonNSub6 val h)
  (fun h => by_way (.lt (.c 20) (.a 31)) (.ge (.a 31) 21) (.le (.a 31) 20) (by kernel_rfl) (by kernel_rfl) h
  (fun h => canonN_44 val h)
  (fun h => canonN_45 val h))

theorem canonNSub13 (val : Nat → Int) (h : Holds val [.ge (.a 3) 0, .is (.a 2) 5, .ne (.a 2) 0, .le (.a 1) 15, .ge (.a 1) 0, .is (.a 0) 5, .ne (.a 0) 8, .ne (.a 0) 0, .at (.or (.eq (.a 6) (.c 0)) (.or (.eq (.a 6) (.c 1)) (.or (.eq (.a 6) (.c 2)) (.or (.eq (.a 6) (.c 4)) (.or (.eq (.a 6) (.c 8)) (.or (.eq (.a 6) (.c 16)) (.or (.eq (.a 6) (.c 32)) .ff))))))) true, .le (.a 5) 2147483647, .ge (.a 5) (-2147483648), .ne (.a 31) 16, .ge (.a 31) 0]) : LawL 6 val :=
  by_way (.lt (.a 3) (.c 16)) (.le (.a 3) 15) (.ge (.a 3) 16) (by kernel_rfl) (by kernel_rfl) h
  (fun h => by_way (.or (.eq (.a 4) (.c 1)) (.or (.eq (.a 4) (.c 2)) (.or (.eq (.a 4) (.c 4)) (.or (.eq (.a 4) (.c 8)) .ff)))) (.at (.or (.eq (.a 4) (.c 1)) (.or (.eq (.a 4) (.c 2)) (.or (.eq (.a 4) (.c 4)) (.or (.eq (.a 4) (.c 8)) .ff)))) true) (.at (.or (.eq (.a 4) (.c 1)) (.or (.eq (.a 4) (.c 2)) (.or (.eq (.a 4) (.c 4)) (.or (.eq (.a 4) (.c 8)) .ff)))) false) (by kernel_rfl) (by kernel_rfl) h
  (fun h => by_way (.eq (.a 3) (.c 4)) (.is (.a 3) 4) (.ne (.a 3) 4) (by kernel_rfl) (by kernel_rfl) h
  (fun h => by_way (.eq (.a 4) (.c 1)) (.is (.a 4) 1) (.ne (.a 4) 1) (by kernel_rfl) (by kernel_rfl) h
  (fun h => by_way (.eq (.a 1) (.c 4)) (.is (.a 1) 4) (.ne (.a 1) 4) (by kernel_rfl) (by kernel_rfl) h
  (fun h => by_way (.lt (.c 20) (.a 31)) (.ge (.a 31) 21) (.le (.a 31) 20) (by kernel_rfl) (by kernel_rfl) h
  (fun h => canonN_52 val h)
  (fun h => canonN_53 val h))
  (fun h => by_way (.lt (.c 20) (.a 31)) (.ge (.a 31) 21) (.le (.a 31) 20) (by kernel_rfl) (by kernel_rfl) h
  (fun h => canonN_54 val h)
  (fun h => canonN_55 val h)))
  (fun h => by_way (.lt (.c 20) (.a 31)) (.ge (.a 31) 21) (.le (.a 31) 20) (by kernel_rfl) (by kernel_rfl) h
  (fun h => canonN_56 val h)
  (fun h => canonN_57 val h)))
  (fun h => by_way (.eq (.a 4) (.c 1)) (.is (.a 4) 1) (.ne (.a 4) 1) (by kernel_rfl) (by kernel_rfl) h
  (fun h => by_way (.lt (.c 20) (.a 31)) (.ge (.a 31) 21) (.le (.a 31) 20) (by kernel_rfl) (by kernel_rfl) h
  (fun h => canonN_58 val h)
  (fun h => canonN_59 val h))
  (fun h => by_way (.lt (.c 20) (.a 31)) (.ge (.a 31) 21) (.le (.a 31) 20) (by kernel_rfl) (by kernel_rfl) h
  (fun h => canonN_60 val h)
  (fun h => canonN_61 val h))))
  (fun h => by_way (.lt (.c 20) (.a 31)) (.ge (.a 31) 21) (.le (.a 31) 20) (by kernel_rfl) (by kernel_rfl) h
  (fun h => canonN_62 val h)
  (fun h => canonN_63 val h)))
  (fun h => by_way (.lt (.c 20) (.a 31)) (.ge (.a 31) 21) (.le (.a 31) 20) (by kernel_rfl) (by kernel_rfl) h
  (fun h => canonN_64 val h)
  (fun h => canonN_65 val h))

theorem canonNSub12 (val : Nat → Int) (h : Holds val [.is (.a 2) 5, .ne (.a 2) 0, .le (.a 1) 15, .ge (.a 1) 0, .is (.a 0) 5, .ne (.a 0) 8, .ne (.a 0) 0, .at (.or (.eq (.a 6) (.c 0)) (.or (.eq (.a 6) (.c 1)) (.or (.eq (.a 6) (.c 2)) (.or (.eq (.a 6) (.c 4)) (.or (.eq (.a 6) (.c 8)) (.or (.eq (.a 6) (.c 16)) (.or (.eq (.a 6) (.c 32)) .ff))))))) true, .le (.a 5) 2147483647, .ge (.a 5) (-2147483648), .ne (.a 31) 16, .ge (.a 31) 0]) : LawL 6 val :=
  by_way (.le (.c 0) (.a 3)) (.ge (.a 3) 0) (.le (.a 3) (-1)) (by kernel_rfl) (by kernel_rfl) h
  (fun h => canonNSub13 val h)
  (fun h => by_way (.lt (.c 20) (.a 31)) (.ge (.a 31) 21) (.le (.a 31) 20) (by kernel_rfl) (by kernel_rfl) h
  (fun h => canonN_66 val h)
  (fun h => canonN_67 val h))

theorem canonNSub11 (val : Nat → Int) (h : Holds val [.ne (.a 2) 0, .le (.a 1) 15, .ge (.a 1) 0, .is (.a 0) 5, .ne (.a 0) 8, .ne (.a 0) 0, .at (.or (.eq (.a 6) (.c 0)) (.or (.eq (.a 6) (.c 1)) (.or (.eq (.a 6) (.c 2)) (.or (.eq (.a 6) (.c 4)) (.or (.eq (.a 6) (.c 8)) (.or (.eq (.a 6) (.c 16)) (.or (.eq (.a 6) (.c 32)) .ff))))))) true, .le (.a 5) 2147483647, .ge (.a 5) (-2147483648), .ne (.a 31) 16, .ge (.a 31) 0]) : LawL 6 val :=
  by_way (.eq (.a 2) (.c 5)) (.is (.a 2) 5) (.ne (.a 2) 5) (by kernel_rfl) (by kernel_rfl) h
  (fun h => canonNSub12 val h)
  (fun h => by_way (.lt (.c 20) (.a 31)) (.ge (.a 31) 21) (.le (.a 31) 20) (by kernel_rfl) (by kernel_rfl) h
  (fun h => canonN_68 val h)
  (fun h => canonN_69 val h))

theorem canonNSub10 (val : Nat → Int) (h : Holds val [.le (.a 1) 15, .ge (.a 1) 0, .is (.a 0) 5, .ne (.a 0) 8, .ne (.a 0) 0, .at (.or (.eq (.a 6) (.c 0)) (.or (.eq (.a 6) (.c 1)) (.or (.eq (.a 6) (.c 2)) (.or (.eq (.a 6) (.c 4)) (.or (.eq (.a 6) (.c 8)) (.or (.eq (.a 6) (.c 16)) (.or (.eq (.a 6) (.c 32)) .ff))))))) true, .le (.a 5) 2147483647, .ge (.a 5) (-2147483648), .ne (.a 31) 16, .ge (.a 31) 0]) : LawL 6 val :=
  by_way (.eq (.a 2) (.c 0)) (.is (.a 2) 0) (.ne (.a 2) 0) (by kernel_rfl) (by kernel_rfl) h
  (fun h => by_way (.eq (.a 3) (.c 0)) (.is (.a 3) 0) (.ne (.a 3) 0) (by kernel_rfl) (by kernel_rfl) h
  (fun h => by_way (.eq (.a 4) (.c 0)) (.is (.a 4) 0) (.ne (.a 4) 0) (by kernel_rfl) (by kernel_rfl) h
  (fun h => by_way (.lt (.c 20) (.a 31)) (.ge (.a 31) 21) (.le (.a 31) 20) (by kernel_rfl) (by kernel_rfl) h
  (fun h => canonN_46 val h)
  (fun h => canonN_47 val h))
  (fun h => by_way (.lt (.c 20) (.a 31)) (.ge (.a 31) 21) (.le (.a 31) 20) (by kernel_rfl) (by kernel_rfl) h
  (fun h => canonN_48 val h)
  (fun h => canonN_49 val h)))
  (fun h => by_way (.lt (.c 20) (.a 31)) (.ge (.a 31) 21) (.le (.a 31) 20) (by kernel_rfl) (by kernel_rfl) h
  (fun h => canonN_50 val h)
  (fun h => canonN_51 val h)))
  (fun h => canonNSub11 val h)

theorem canonNSub9 (val : Nat → Int) (h : Holds val [.ge (.a 1) 0, .is (.a 0) 5, .ne (.a 0) 8, .ne (.a 0) 0, .at (.or (.eq (.a 6) (.c 0)) (.or (.eq (.a 6) (.c 1)) (.or (.eq (.a 6) (.c 2)) (.or (.eq (.a 6) (.c 4)) (.or (.eq (.a 6) (.c 8)) (.or (.eq (.a 6) (.c 16)) (.or (.eq (.a 6) (.c 32)) .ff))))))) true, .le (.a 5) 2147483647, .ge (.a 5) (-2147483648), .ne (.a 31) 16, .ge (.a 31) 0]) : LawL 6 val :=
  by_way (.lt (.a 1) (.c 16)) (.le (.a 1) 15) (.ge (.a 1) 16) (by kernel_rfl) (by kernel_rfl) h
  (fun h => canonNSub10 val h)
  (fun h => by_way (.lt (.c 20) (.a 31)) (.ge (.a 31) 21) (.le (.a 31) 20) (by kernel_rfl) (by kernel_rfl) h
  (fun h => canonN_70 val h)
  (fun h => canonN_71 val h))

theorem canonNSub8 (val : Nat → Int) (h : Holds val [.is (.a 0) 5, .ne (.a 0) 8, .ne (.a 0) 0, .at (.or (.eq (.a 6) (.c 0)) (.or (.eq (.a 6) (.c 1)) (.or (.eq (.a 6) (.c 2)) (.or (.eq (.a 6) (.c 4)) (.or (.eq (.a 6) (.c 8)) (.or (.eq (.a 6) (.c 16)) (.or (.eq (.a 6) (.c 32)) .ff))))))) true, .le (.a 5) 2147483647, .ge (.a 5) (-2147483648), .ne (.a 31) 16, .ge (.a 31) 0]) : LawL 6 val :=
  by_way (.le (.c 0) (.a 1)) (.ge (.a 1) 0) (.le (.a 1) (-1)) (by kernel_rfl) (by kernel_rfl) h
  (fun h => canonNSub9 val h)
  (fun h => by_way (.lt (.c 20) (.a 31)) (.ge (.a 31) 21) (.le (.a 31) 20) (by kernel_rfl) (by kernel_rfl) h
  (fun h => canonN_72 val h)
  (fun h => canonN_73 val h))

theorem canonNSub7 (val : Nat → Int) (h : Holds val [.ne (.a 0) 8, .ne (.a 0) 0, .at (.or (.eq (.a 6) (.c 0)) (.or (.eq (.a 6) (.c 1)) (.or (.eq (.a 6) (.c 2)) (.or (.eq (.a 6) (.c 4)) (.or (.eq (.a 6) (.c 8)) (.or (.eq (.a 6) (.c 16)) (.or (.eq (.a 6) (.c 32)) .ff))))))) true, .le (.a 5) 2147483647, .ge (.a 5) (-2147483648), .ne (.a 31) 16, .ge (.a 31) 0]) : LawL 6 val :=
  by_way (.eq (.a 0) (.c 5)) (.is (.a 0) 5) (.ne (.a 0) 5) (by kernel_rfl) (by kernel_rfl) h
  (fun h => canonNSub8 val h)
  (fun h => by_way (.lt (.c 20) (.a 31)) (.ge (.a 31) 21) (.le (.a 31) 20) (by kernel_rfl) (by kernel_rfl) h
  (fun h => canonN_74 val h)
  (fun h => canonN_75 val h))

theorem canonNSub4 (val : Nat → Int) (h : Holds val [.ne (.a 0) 0, .at (.or (.eq (.a 6) (.c 0)) (.or (.eq (.a 6) (.c 1)) (.or (.eq (.a 6) (.c 2)) (.or (.eq (.a 6) (.c 4)) (.or (.eq (.a 6) (.c 8)) (.or (.eq (.a 6) (.c 16)) (.or (.eq (.a 6) (.c 32)) .ff))))))) true, .le (.a 5) 2147483647, .ge (.a 5) (-2147483648), .ne (.a 31) 16, .ge (.a 31) 0]) : LawL 6 val :=
  by_way (.eq (.a 0) (.c 8)) (.is (.a 0) 8) (.ne (.a 0) 8) (by kernel_rfl) (by kernel_rfl) h
  (fun h => canonNSub5 val h)
  (fun h => canonNSub7 val h)

theorem canonN (val : Nat → Int) (h : Holds val [.ne (.a 31) 16, .ge (.a 31) 0]) : LawL 6 val :=
  by_way (.lt (.a 5) (.c (-2147483648))) (.le (.a 5) (-2147483649)) (.ge (.a 5) (-2147483648)) (by kernel_rfl) (by kernel_rfl) h
  (fun h => by_way (.lt (.c 20) (.a 31)) (.ge (.a 31) 21) (.le (.a 31) 20) (by kernel_rfl) (by kernel_rfl) h
  (fun h => canonN_0 val h)
  (fun h => canonN_1 val h))
  (fun h => by_way (.lt (.c 2147483647) (.a 5)) (.ge (.a 5) 2147483648) (.le (.a 5) 2147483647) (by kernel_rfl) (by kernel_rfl) h
  (fun h => by_way (.lt (.c 20) (.a 31)) (.ge (.a 31) 21) (.le (.a 31) 20) (by kernel_rfl) (by kernel_rfl) h
  (fun h => canonN_2 val h)
  (fun h => canonN_3 val h))
  (fun h => by_way (.or (.eq (.a 6) (.c 0)) (.or (.eq (.a 6) (.c 1)) (.or (.eq (.a 6) (.c 2)) (.or (.eq (.a 6) (.c 4)) (.or (.eq (.a 6) (.c 8)) (.or (.eq (.a 6) (.c 16)) (.or (.eq (.a 6) (.c 32)) .ff))))))) (.at (.or (.eq (.a 6) (.c 0)) (.or (.eq (.a 6) (.c 1)) (.or (.eq (.a 6) (.c 2)) (.or (.eq (.a 6) (.c 4)) (.or (.eq (.a 6) (.c 8)) (.or (.eq (.a 6) (.c 16)) (.or (.eq (.a 6) (.c 32)) .ff))))))) true) (.at (.or (.eq (.a 6) (.c 0)) (.or (.eq (.a 6) (.c 1)) (.or (.eq (.a 6) (.c 2)) (.or (.eq (.a 6) (.c 4)) (.or (.eq (.a 6) (.c 8)) (.or (.eq (.a 6) (.c 16)) (.or (.eq (.a 6) (.c 32)) .ff))))))) false) (by kernel_rfl) (by kernel_rfl) h
  (fun h => by_way (.eq (.a 0) (.c 0)) (.is (.a 0) 0) (.ne (.a 0) 0) (by kernel_rfl) (by kernel_rfl) h
  (fun h => canonNSub0 val h)
  (fun h => canonNSub4 val h))
  (fun h => by_way (.lt (.c 20) (.a 31)) (.ge (.a 31) 21) (.le (.a 31) 20) (by kernel_rfl) (by kernel_rfl) h
  (fun h => canonN_76 val h)
  (fun h => canonN_77 val h))))

end Go.Proofs.Ytlegmdfceifkcaa.Tab
