/-
  Ways through the code, part 2.
-/
import Derived.Test.YtlegmdfceifkcaaMemB
namespace Go.Proofs.Ytlegmdfceifkcaa.Tab
open Go.Sim
set_option maxRecDepth 100000

theorem addr2_0 (val : Nat → Int) (h : Holds val [.is (.a 29) 0, .ge (.a 30) 2]) : LawN 4 2 val :=
  leafAN h (by kernel_rfl) (by kernel_rfl)

theorem addr2_1 (val : Nat → Int) (h : Holds val [.ne (.a 29) 0, .ge (.a 30) 2]) : LawN 4 2 val :=
  leafAN h (by kernel_rfl) (by kernel_rfl)


theorem addr2 (val : Nat → Int) (h : Holds val [.ge (.a 30) 2]) : LawN 4 2 val :=
  by_way (.eq (.a 29) (.c 0)) (.is (.a 29) 0) (.ne (.a 29) 0) (by kernel_rfl) (by kernel_rfl) h
  (fun h => addr2_0 val h)
  (fun h => addr2_1 val h)

theorem addr4_0 (val : Nat → Int) (h : Holds val [.is (.a 29) 0, .ge (.a 30) 4]) : LawN 4 4 val :=
  leafAN h (by kernel_rfl) (by kernel_rfl)

theorem addr4_1 (val : Nat → Int) (h : Holds val [.ne (.a 29) 0, .ge (.a 30) 4]) : LawN 4 4 val :=
  leafAN h (by kernel_rfl) (by kernel_rfl)


theorem addr4 (val : Nat → Int) (h : Holds val [.ge (.a 30) 4]) : LawN 4 4 val :=
  by_way (.eq (.a 29) (.c 0)) (.is (.a 29) 0) (.ne (.a 29) 0) (by kernel_rfl) (by kernel_rfl) h
  (fun h => addr4_0 val h)
  (fun h => addr4_1 val h)

theorem addr6_0 (val : Nat → Int) (h : Holds val [.is (.a 29) 0, .ge (.a 30) 6]) : LawN 4 6 val :=
  leafAN h (by kernel_rfl) (by kernel_rfl)

theorem addr6_1 (val : Nat → Int) (h : Holds val [.ne (.a 29) 0, .ge (.a 30) 6]) : LawN 4 6 val :=
  leafAN h (by kernel_rfl) (by kernel_rfl)


theorem addr6 (val : Nat → Int) (h : Holds val [.ge (.a 30) 6]) : LawN 4 6 val :=
  by_way (.eq (.a 29) (.c 0)) (.is (.a 29) 0) (.ne (.a 29) 0) (by kernel_rfl) (by kernel_rfl) h
  (fun h => addr6_0 val h)
  (fun h => addr6_1 val h)

theorem addr8_0 (val : Nat → Int) (h : Holds val [.is (.a 29) 0, .ge (.a 30) 8]) : LawN 4 8 val :=
  leafAN h (by kernel_rfl) (by kernel_rfl)

theorem addr8_1 (val : Nat → Int) (h : Holds val [.ne (.a 29) 0, .ge (.a 30) 8]) : LawN 4 8 val :=
  leafAN h (by kernel_rfl) (by kernel_rfl)


theorem addr8 (val : Nat → Int) (h : Holds val [.ge (.a 30) 8]) : LawN 4 8 val :=
  by_way (.eq (.a 29) (.c 0)) (.is (.a 29) 0) (.ne (.a 29) 0) (by kernel_rfl) (by kernel_rfl) h
  (fun h => addr8_0 val h)
  (fun h => addr8_1 val h)

theorem addr10_0 (val : Nat → Int) (h : Holds val [.is (.a 29) 0, .ge (.a 30) 10]) : LawN 4 10 val :=
  leafAN h (by kernel_rfl) (by kernel_rfl)

theorem addr10_1 (val : Nat → Int) (h : Holds val [.ne (.a 29) 0, .ge (.a 30) 10]) : LawN 4 10 val :=
  leafAN h (by kernel_rfl) (by kernel_rfl)


theorem addr10 (val : Nat → Int) (h : Holds val [.ge (.a 30) 10]) : LawN 4 10 val :=
  by_way (.eq (.a 29) (.c 0)) (.is (.a 29) 0) (.ne (.a 29) 0) (by kernel_rfl) (by kernel_rfl) h
  (fun h => addr10_0 val h)
  (fun h => addr10_1 val h)

theorem addr12_0 (val : Nat → Int) (h : Holds val [.is (.a 29) 0, .ge (.a 30) 12]) : LawN 4 12 val :=
  leafAN h (by kernel_rfl) (by kernel_rfl)

theorem addr12_1 (val : Nat → Int) (h : Holds val [.ne (.a 29) 0, .ge (.a 30) 12]) : LawN 4 12 val :=
  leafAN h (by kernel_rfl) (by kernel_rfl)


theorem addr12 (val : Nat → Int) (h : Holds val [.ge (.a 30) 12]) : LawN 4 12 val :=
  by_way (.eq (.a 29) (.c 0)) (.is (.a 29) 0) (.ne (.a 29) 0) (by kernel_rfl) (by kernel_rfl) h
  (fun h => addr12_0 val h)
  (fun h => addr12_1 val h)

theorem addr14_0 (val : Nat → Int) (h : Holds val [.is (.a 29) 0, .ge (.a 30) 14]) : LawN 4 14 val :=
  leafAN h (by kernel_rfl) (by kernel_rfl)

theorem addr14_1 (val : Nat → Int) (h : Holds val [.ne (.a 29) 0, .ge (.a 30) 14]) : LawN 4 14 val :=
  leafAN h (by kernel_rfl) (by kernel_rfl)


theorem addr14 (val : Nat → Int) (h : Holds val [.ge (.a 30) 14]) : LawN 4 14 val :=
  by_way (.eq (.a 29) (.c 0)) (.is (.a 29) 0) (.ne (.a 29) 0) (by kernel_rfl) (by kernel_rfl) h
  (fun h => addr14_0 val h)
  (fun h => addr14_1 val h)

theorem addr17_0 (val : Nat → Int) (h : Holds val [.is (.a 29) 0, .ge (.a 30) 17]) : LawN 4 17 val :=
  leafAN h (by kernel_rfl) (by kernel_rfl)

theorem addr17_1 (val : Nat → Int) (h : Holds val [.ne (.a 29) 0, .ge (.a 30) 17]) : LawN 4 17 val :=
  leafAN h (by kernel_rfl) (by kernel_rfl)


theorem addr17 (val : Nat → Int) (h : Holds val [.ge (.a 30) 17]) : LawN 4 17 val :=
  by_way (.eq (.a 29) (.c 0)) (.is (.a 29) 0) (.ne (.a 29) 0) (by kernel_rfl) (by kernel_rfl) h
  (fun h => addr17_0 val h)
  (fun h => addr17_1 val h)

theorem addr19_0 (val : Nat → Int) (h : Holds val [.is (.a 29) 0, .ge (.a 30) 19]) : LawN 4 19 val :=
  leafAN h (by kernel_rfl) (by kernel_rfl)

theorem addr19_1 (val : Nat → Int) (h : Holds val [.ne (.a 29) 0, .ge (.a 30) 19]) : LawN 4 19 val :=
  leafAN h (by kernel_rfl) (by kernel_rfl)


theorem addr19 (val : Nat → Int) (h : Holds val [.ge (.a 30) 19]) : LawN 4 19 val :=
  by_way (.eq (.a 29) (.c 0)) (.is (.a 29) 0) (.ne (.a 29) 0) (by kernel_rfl) (by kernel_rfl) h
  (fun h => addr19_0 val h)
  (fun h => addr19_1 val h)

theorem addrZ_0 (val : Nat → Int) (h : Holds val [.is (.a 29) 0, .is (.a 31) 0]) : LawZ 4 val :=
  leafAZ h (fun sla => by kernel_rfl)

theorem addrZ_1 (val : Nat → Int) (h : Holds val [.ne (.a 29) 0, .is (.a 31) 0]) : LawZ 4 val :=
  leafAZ h (fun sla => by kernel_rfl)


theorem addrZ (val : Nat → Int) (h : Holds val [.is (.a 31) 0]) : LawZ 4 val :=
  by_way (.eq (.a 29) (.c 0)) (.is (.a 29) 0) (.ne (.a 29) 0) (by kernel_rfl) (by kernel_rfl) h
  (fun h => addrZ_0 val h)
  (fun h => addrZ_1 val h)

theorem addrL_0 (val : Nat → Int) (h : Holds val [.ge (.a 31) 21]) : LawL 4 val :=
  leafAL h (fun sla => by kernel_rfl)


theorem addrL (val : Nat → Int) (h : Holds val [.ge (.a 31) 21]) : LawL 4 val :=
  addrL_0 val h

end Go.Proofs.Ytlegmdfceifkcaa.Tab
