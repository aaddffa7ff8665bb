/-
  Ways through the code, part 1.
-/
import Derived.Test.YtlegmdfceifkcaaMemB
namespace Go.Proofs.Ytlegmdfceifkcaa.Tab
open Go.Sim
set_option maxRecDepth 100000

theorem addr1_0 (val : Nat → Int) (h : Holds val [.is (.a 29) 0, .ge (.a 30) 1]) : LawN 4 1 val :=
  leafAN h (by kernel_rfl) (by kernel_rfl)

theorem addr1_1 (val : Nat → Int) (h : Holds val [.ne (.a 29) 0, .ge (.a 30) 1]) : LawN 4 1 val :=
  leafAN h (by kernel_rfl) (by kernel_rfl)


theorem addr1 (val : Nat → Int) (h : Holds val [.ge (.a 30) 1]) : LawN 4 1 val :=
  by_way (.eq (.a 29) (.c 0)) (.is (.a 29) 0) (.ne (.a 29) 0) (by kernel_rfl) (by kernel_rfl) h
  (fun h => addr1_0 val h)
  (fun h => addr1_1 val h)

theorem addr3_0 (val : Nat → Int) (h : Holds val [.is (.a 29) 0, .ge (.a 30) 3]) : LawN 4 3 val :=
  leafAN h (by kernel_rfl) (by kernel_rfl)

theorem addr3_1 (val : Nat → Int) (h : Holds val [.ne (.a 29) 0, .ge (.a 30) 3]) : LawN 4 3 val :=
  leafAN h (by kernel_rfl) (by kernel_rfl)


theorem addr3 (val : Nat → Int) (h : Holds val [.ge (.a 30) 3]) : LawN 4 3 val :=
  by_way (.eq (.a 29) (.c 0)) (.is (.a 29) 0) (.ne (.a 29) 0) (by kernel_rfl) (by kernel_rfl) h
  (fun h => addr3_0 val h)
  (fun h => addr3_1 val h)

theorem addr5_0 (val : Nat → Int) (h : Holds val [.is (.a 29) 0, .ge (.a 30) 5]) : LawN 4 5 val :=
  leafAN h (by kernel_rfl) (by kernel_rfl)

theorem addr5_1 (val : Nat → Int) (h : Holds val [.ne (.a 29) 0, .ge (.a 30) 5]) : LawN 4 5 val :=
  leafAN h (by kernel_rfl) (by kernel_rfl)


theorem addr5 (val : Nat → Int) (h : Holds val [.ge (.a 30) 5]) : LawN 4 5 val :=
  by_way (.eq (.a 29) (.c 0)) (.is (.a 29) 0) (.ne (.a 29) 0) (by kernel_rfl) (by kernel_rfl) h
  (fun h => addr5_0 val h)
  (fun h => addr5_1 val h)

theorem addr7_0 (val : Nat → Int) (h : Holds val [.is (.a 29) 0, .ge (.a 30) 7]) : LawN 4 7 val :=
  leafAN h (by kernel_rfl) (by kernel_rfl)

theorem addr7_1 (val : Nat → Int) (h : Holds val [.ne (.a 29) 0, .ge (.a 30) 7]) : LawN 4 7 val :=
  leafAN h (by kernel_rfl) (by kernel_rfl)


theorem addr7 (val : Nat → Int) (h : Holds val [.ge (.a 30) 7]) : LawN 4 7 val :=
  by_way (.eq (.a 29) (.c 0)) (.is (.a 29) 0) (.ne (.a 29) 0) (by kernel_rfl) (by kernel_rfl) h
  (fun h => addr7_0 val h)
  (fun h => addr7_1 val h)

theorem addr9_0 (val : Nat → Int) (h : Holds val [.is (.a 29) 0, .ge (.a 30) 9]) : LawN 4 9 val :=
  leafAN h (by kernel_rfl) (by kernel_rfl)

theorem addr9_1 (val : Nat → Int) (h : Holds val [.ne (.a 29) 0, .ge (.a 30) 9]) : LawN 4 9 val :=
  leafAN h (by kernel_rfl) (by kernel_rfl)


theorem addr9 (val : Nat → Int) (h : Holds val [.ge (.a 30) 9]) : LawN 4 9 val :=
  by_way (.eq (.a 29) (.c 0)) (.is (.a 29) 0) (.ne (.a 29) 0) (by kernel_rfl) (by kernel_rfl) h
  (fun h => addr9_0 val h)
  (fun h => addr9_1 val h)

theorem addr11_0 (val : Nat → Int) (h : Holds val [.is (.a 29) 0, .ge (.a 30) 11]) : LawN 4 11 val :=
  leafAN h (by kernel_rfl) (by kernel_rfl)

theorem addr11_1 (val : Nat → Int) (h : Holds val [.ne (.a 29) 0, .ge (.a 30) 11]) : LawN 4 11 val :=
  leafAN h (by kernel_rfl) (by kernel_rfl)


theorem addr11 (val : Nat → Int) (h : Holds val [.ge (.a 30) 11]) : LawN 4 11 val :=
  by_way (.eq (.a 29) (.c 0)) (.is (.a 29) 0) (.ne (.a 29) 0) (by kernel_rfl) (by kernel_rfl) h
  (fun h => addr11_0 val h)
  (fun h => addr11_1 val h)

theorem addr13_0 (val : Nat → Int) (h : Holds val [.is (.a 29) 0, .ge (.a 30) 13]) : LawN 4 13 val :=
  leafAN h (by kernel_rfl) (by kernel_rfl)

theorem addr13_1 (val : Nat → Int) (h : Holds val [.ne (.a 29) 0, .ge (.a 30) 13]) : LawN 4 13 val :=
  leafAN h (by kernel_rfl) (by kernel_rfl)


theorem addr13 (val : Nat → Int) (h : Holds val [.ge (.a 30) 13]) : LawN 4 13 val :=
  by_way (.eq (.a 29) (.c 0)) (.is (.a 29) 0) (.ne (.a 29) 0) (by kernel_rfl) (by kernel_rfl) h
  (fun h => addr13_0 val h)
  (fun h => addr13_1 val h)

theorem addr15_0 (val : Nat → Int) (h : Holds val [.is (.a 29) 0, .ge (.a 30) 15]) : LawN 4 15 val :=
  leafAN h (by kernel_rfl) (by kernel_rfl)

theorem addr15_1 (val : Nat → Int) (h : Holds val [.ne (.a 29) 0, .ge (.a 30) 15]) : LawN 4 15 val :=
  leafAN h (by kernel_rfl) (by kernel_rfl)


theorem addr15 (val : Nat → Int) (h : Holds val [.ge (.a 30) 15]) : LawN 4 15 val :=
  by_way (.eq (.a 29) (.c 0)) (.is (.a 29) 0) (.ne (.a 29) 0) (by kernel_rfl) (by kernel_rfl) h
  (fun h => addr15_0 val h)
  (fun h => addr15_1 val h)

theorem addr18_0 (val : Nat → Int) (h : Holds val [.is (.a 29) 0, .ge (.a 30) 18]) : LawN 4 18 val :=
  leafAN h (by kernel_rfl) (by kernel_rfl)

theorem addr18_1 (val : Nat → Int) (h : Holds val [.ne (.a 29) 0, .ge (.a 30) 18]) : LawN 4 18 val :=
  leafAN h (by kernel_rfl) (by kernel_rfl)


theorem addr18 (val : Nat → Int) (h : Holds val [.ge (.a 30) 18]) : LawN 4 18 val :=
  by_way (.eq (.a 29) (.c 0)) (.is (.a 29) 0) (.ne (.a 29) 0) (by kernel_rfl) (by kernel_rfl) h
  (fun h => addr18_0 val h)
  (fun h => addr18_1 val h)

theorem addr20_0 (val : Nat → Int) (h : Holds val [.is (.a 29) 0, .ge (.a 30) 20]) : LawN 4 20 val :=
  leafAN h (by kernel_rfl) (by kernel_rfl)

theorem addr20_1 (val : Nat → Int) (h : Holds val [.ne (.a 29) 0, .ge (.a 30) 20]) : LawN 4 20 val :=
  leafAN h (by kernel_rfl) (by kernel_rfl)


theorem addr20 (val : Nat → Int) (h : Holds val [.ge (.a 30) 20]) : LawN 4 20 val :=
  by_way (.eq (.a 29) (.c 0)) (.is (.a 29) 0) (.ne (.a 29) 0) (by kernel_rfl) (by kernel_rfl) h
  (fun h => addr20_0 val h)
  (fun h => addr20_1 val h)

end Go.Proofs.Ytlegmdfceifkcaa.Tab
