/-
  Ways through the code, part 1.
-/
import Derived.Test.YtndiilfjeconbaaArgJH
namespace Go.Proofs.Ytndiilfjeconbaa.Tab
open Go.Sim
set_option maxRecDepth 100000
set_option linter.unusedSimpArgs false
set_option maxHeartbeats 4000000

theorem argJ_36 (val : Nat → Int) (h : Holds val [.ge (.a 4) 16, .ge (.a 4) 0, tI 3 5, tN 3 8, tN 3 0, tI 9 0, .le (.a 8) 2147483647, .ge (.a 8) (-2147483648), tI 0 2, tN 0 1]) : ArgJ val := lf h [(.c 0), (.c 0), (.c 0), (.c 0), (.c 0), (.c 0), (.c 0), (.c 0), (.c 0), (.c 0), (.c 0), (.c 2), (.c 0)] (by kernel_rfl)

theorem argJ_37 (val : Nat → Int) (h : Holds val [.le (.a 4) (-1), tI 3 5, tN 3 8, tN 3 0, tI 9 0, .le (.a 8) 2147483647, .ge (.a 8) (-2147483648), tI 0 2, tN 0 1]) : ArgJ val := lf h [(.c 0), (.c 0), (.c 0), (.c 0), (.c 0), (.c 0), (.c 0), (.c 0), (.c 0), (.c 0), (.c 0), (.c 2), (.c 0)] (by kernel_rfl)

theorem argJ_38 (val : Nat → Int) (h : Holds val [tN 3 5, tN 3 8, tN 3 0, tI 9 0, .le (.a 8) 2147483647, .ge (.a 8) (-2147483648), tI 0 2, tN 0 1]) : ArgJ val := lf h [(.c 0), (.c 0), (.c 0), (.c 0), (.c 0), (.c 0), (.c 0), (.c 0), (.c 0), (.c 0), (.c 0), (.c 2), (.c 0)] (by kernel_rfl)

theorem argJ_39 (val : Nat → Int) (h : Holds val [tI 5 0, tI 4 0, tI 3 0, tI 9 1, tN 9 0, .le (.a 8) 2147483647, .ge (.a 8) (-2147483648), tI 0 2, tN 0 1]) : ArgJ val := by_eq 6 0 h (fun h => by_eq 7 0 h (fun h => lf h [(.a 0), (.c 0), (.c 0), (.a 3), (.a 4), (.a 5), (.a 6), (.a 7), (.a 8), (.a 9), (.c 0), (.c 0), (.a 9)] (by kernel_rfl))
 (fun h => lf h [(.c 0), (.c 0), (.c 0), (.c 0), (.c 0), (.c 0), (.c 0), (.c 0), (.c 0), (.c 0), (.c 0), (.c 2), (.c 0)] (by kernel_rfl)))
 (fun h => lf h [(.c 0), (.c 0), (.c 0), (.c 0), (.c 0), (.c 0), (.c 0), (.c 0), (.c 0), (.c 0), (.c 0), (.c 2), (.c 0)] (by kernel_rfl))

theorem argJ_40 (val : Nat → Int) (h : Holds val [tI 6 4, .at (.or (.eq (.a 7) (.c 1)) (.or (.eq (.a 7) (.c 2)) (.or (.eq (.a 7) (.c 4)) (.or (.eq (.a 7) (.c 8)) .ff)))) true, .le (.a 6) 15, .ge (.a 6) 0, tI 5 5, tN 5 0, tI 4 0, tI 3 0, tI 9 1, tN 9 0, .le (.a 8) 2147483647, .ge (.a 8) (-2147483648), tI 0 2, tN 0 1]) : ArgJ val := by_eq 7 1 h (fun h => lf h [(.a 0), (.c 0), (.c 0), (.a 5), (.a 6), (.c 0), (.c 0), (.c 0), (.a 8), (.a 9), (.c 0), (.c 0), (.a 9)] (by kernel_rfl))
 (fun h => by_way (.eq (.c 2) (.a 7)) (tI 7 2) (tN 7 2) rfl rfl h (fun h => lf h [(.c 0), (.c 0), (.c 0), (.c 0), (.c 0), (.c 0), (.c 0), (.c 0), (.c 0), (.c 0), (.c 0), (.c 2), (.c 0)] (by kernel_rfl))
 (fun h => by_way (.eq (.c 4) (.a 7)) (tI 7 4) (tN 7 4) rfl rfl h (fun h => lf h [(.c 0), (.c 0), (.c 0), (.c 0), (.c 0), (.c 0), (.c 0), (.c 0), (.c 0), (.c 0), (.c 0), (.c 2), (.c 0)] (by kernel_rfl))
 (fun h => by_way (.eq (.c 8) (.a 7)) (tI 7 8) (tN 7 8) rfl rfl h (fun h => lf h [(.c 0), (.c 0), (.c 0), (.c 0), (.c 0), (.c 0), (.c 0), (.c 0), (.c 0), (.c 0), (.c 0), (.c 2), (.c 0)] (by kernel_rfl))
 (fun h => lf h [(.c 0), (.c 0), (.c 0), (.c 0), (.c 0), (.c 0), (.c 0), (.c 0), (.c 0), (.c 0), (.c 0), (.c 2), (.c 0)] (by kernel_rfl)))))

theorem argJ_41 (val : Nat → Int) (h : Holds val [tN 6 4, .at (.or (.eq (.a 7) (.c 1)) (.or (.eq (.a 7) (.c 2)) (.or (.eq (.a 7) (.c 4)) (.or (.eq (.a 7) (.c 8)) .ff)))) true, .le (.a 6) 15, .ge (.a 6) 0, tI 5 5, tN 5 0, tI 4 0, tI 3 0, tI 9 1, tN 9 0, .le (.a 8) 2147483647, .ge (.a 8) (-2147483648), tI 0 2, tN 0 1]) : ArgJ val := by_eq 7 1 h (fun h => lf h [(.a 0), (.c 0), (.c 0), (.a 5), (.a 6), (.c 0), (.c 0), (.c 0), (.a 8), (.a 9), (.c 0), (.c 0), (.a 9)] (by kernel_rfl))
 (fun h => by_way (.eq (.c 2) (.a 7)) (tI 7 2) (tN 7 2) rfl rfl h (fun h => lf h [(.a 0), (.c 0), (.c 0), (.a 3), (.a 4), (.a 5), (.a 6), (.a 7), (.a 8), (.a 9), (.c 0), (.c 0), (.a 9)] (by kernel_rfl))
 (fun h => by_way (.eq (.c 4) (.a 7)) (tI 7 4) (tN 7 4) rfl rfl h (fun h => lf h [(.a 0), (.c 0), (.c 0), (.a 3), (.a 4), (.a 5), (.a 6), (.a 7), (.a 8), (.a 9), (.c 0), (.c 0), (.a 9)] (by kernel_rfl))
 (fun h => by_way (.eq (.c 8) (.a 7)) (tI 7 8) (tN 7 8) rfl rfl h (fun h => lf h [(.a 0), (.c 0), (.c 0), (.a 3), (.a 4), (.a 5), (.a 6), (.a 7), (.a 8), (.a 9), (.c 0), (.c 0), (.a 9)] (by kernel_rfl))
 (fun h => lf h [(.c 0), (.c 0), (.c 0), (.c 0), (.c 0), (.c 0), (.c 0), (.c 0), (.c 0), (.c 0), (.c 0), (.c 2), (.c 0)] (by kernel_rfl)))))

theorem argJ_42 (val : Nat → Int) (h : Holds val [tI 7 1, .at (.or (.eq (.a 7) (.c 1)) (.or (.eq (.a 7) (.c 2)) (.or (.eq (.a 7) (.c 4)) (.or (.eq (.a 7) (.c 8)) .ff)))) false, .le (.a 6) 15, .ge (.a 6) 0, tI 5 5, tN 5 0, tI 4 0, tI 3 0, tI 9 1, tN 9 0, .le (.a 8) 2147483647, .ge (.a 8) (-2147483648), tI 0 2, tN 0 1]) : ArgJ val := by_eq 6 4 h (fun h => lf h [(.a 0), (.c 0), (.c 0), (.a 5), (.a 6), (.c 0), (.c 0), (.c 0), (.a 8), (.a 9), (.c 0), (.c 0), (.a 9)] (by kernel_rfl))
 (fun h => lf h [(.a 0), (.c 0), (.c 0), (.a 5), (.a 6), (.c 0), (.c 0), (.c 0), (.a 8), (.a 9), (.c 0), (.c 0), (.a 9)] (by kernel_rfl))

theorem argJ_43 (val : Nat → Int) (h : Holds val [tI 7 2, tN 7 1, .at (.or (.eq (.a 7) (.c 1)) (.or (.eq (.a 7) (.c 2)) (.or (.eq (.a 7) (.c 4)) (.or (.eq (.a 7) (.c 8)) .ff)))) false, .le (.a 6) 15, .ge (.a 6) 0, tI 5 5, tN 5 0, tI 4 0, tI 3 0, tI 9 1, tN 9 0, .le (.a 8) 2147483647, .ge (.a 8) (-2147483648), tI 0 2, tN 0 1]) : ArgJ val := by_eq 6 4 h (fun h => lf h [(.c 0), (.c 0), (.c 0), (.c 0), (.c 0), (.c 0), (.c 0), (.c 0), (.c 0), (.c 0), (.c 0), (.c 2), (.c 0)] (by kernel_rfl))
 (fun h => lf h [(.a 0), (.c 0), (.c 0), (.a 3), (.a 4), (.a 5), (.a 6), (.a 7), (.a 8), (.a 9), (.c 0), (.c 0), (.a 9)] (by kernel_rfl))

theorem argJ_44 (val : Nat → Int) (h : Holds val [tN 7 2, tN 7 1, .at (.or (.eq (.a 7) (.c 1)) (.or (.eq (.a 7) (.c 2)) (.or (.eq (.a 7) (.c 4)) (.or (.eq (.a 7) (.c 8)) .ff)))) false, .le (.a 6) 15, .ge (.a 6) 0, tI 5 5, tN 5 0, tI 4 0, tI 3 0, tI 9 1, tN 9 0, .le (.a 8) 2147483647, .ge (.a 8) (-2147483648), tI 0 2, tN 0 1]) : ArgJ val := by_way (.eq (.c 4) (.a 7)) (tI 7 4) (tN 7 4) rfl rfl h (fun h => by_eq 6 4 h (fun h => lf h [(.c 0), (.c 0), (.c 0), (.c 0), (.c 0), (.c 0), (.c 0), (.c 0), (.c 0), (.c 0), (.c 0), (.c 2), (.c 0)] (by kernel_rfl))
 (fun h => lf h [(.a 0), (.c 0), (.c 0), (.a 3), (.a 4), (.a 5), (.a 6), (.a 7), (.a 8), (.a 9), (.c 0), (.c 0), (.a 9)] (by kernel_rfl)))
 (fun h => by_way (.eq (.c 8) (.a 7)) (tI 7 8) (tN 7 8) rfl rfl h (fun h => by_eq 6 4 h (fun h => lf h [(.c 0), (.c 0), (.c 0), (.c 0), (.c 0), (.c 0), (.c 0), (.c 0), (.c 0), (.c 0), (.c 0), (.c 2), (.c 0)] (by kernel_rfl))
 (fun h => lf h [(.a 0), (.c 0), (.c 0), (.a 3), (.a 4), (.a 5), (.a 6), (.a 7), (.a 8), (.a 9), (.c 0), (.c 0), (.a 9)] (by kernel_rfl)))
 (fun h => lf h [(.c 0), (.c 0), (.c 0), (.c 0), (.c 0), (.c 0), (.c 0), (.c 0), (.c 0), (.c 0), (.c 0), (.c 2), (.c 0)] (by kernel_rfl)))

theorem argJ_45 (val : Nat → Int) (h : Holds val [.ge (.a 6) 16, .ge (.a 6) 0, tI 5 5, tN 5 0, tI 4 0, tI 3 0, tI 9 1, tN 9 0, .le (.a 8) 2147483647, .ge (.a 8) (-2147483648), tI 0 2, tN 0 1]) : ArgJ val := lf h [(.c 0), (.c 0), (.c 0), (.c 0), (.c 0), (.c 0), (.c 0), (.c 0), (.c 0), (.c 0), (.c 0), (.c 2), (.c 0)] (by kernel_rfl)

theorem argJ_46 (val : Nat → Int) (h : Holds val [.le (.a 6) (-1), tI 5 5, tN 5 0, tI 4 0, tI 3 0, tI 9 1, tN 9 0, .le (.a 8) 2147483647, .ge (.a 8) (-2147483648), tI 0 2, tN 0 1]) : ArgJ val := lf h [(.c 0), (.c 0), (.c 0), (.c 0), (.c 0), (.c 0), (.c 0), (.c 0), (.c 0), (.c 0), (.c 0), (.c 2), (.c 0)] (by kernel_rfl)

theorem argJ_47 (val : Nat → Int) (h : Holds val [tN 5 5, tN 5 0, tI 4 0, tI 3 0, tI 9 1, tN 9 0, .le (.a 8) 2147483647, .ge (.a 8) (-2147483648), tI 0 2, tN 0 1]) : ArgJ val := lf h [(.c 0), (.c 0), (.c 0), (.c 0), (.c 0), (.c 0), (.c 0), (.c 0), (.c 0), (.c 0), (.c 0), (.c 2), (.c 0)] (by kernel_rfl)

theorem argJ_48 (val : Nat → Int) (h : Holds val [tN 4 0, tI 3 0, tI 9 1, tN 9 0, .le (.a 8) 2147483647, .ge (.a 8) (-2147483648), tI 0 2, tN 0 1]) : ArgJ val := lf h [(.c 0), (.c 0), (.c 0), (.c 0), (.c 0), (.c 0), (.c 0), (.c 0), (.c 0), (.c 0), (.c 0), (.c 2), (.c 0)] (by kernel_rfl)

theorem argJ_49 (val : Nat → Int) (h : Holds val [tI 5 0, tI 4 0, tI 3 8, tN 3 0, tI 9 1, tN 9 0, .le (.a 8) 2147483647, .ge (.a 8) (-2147483648), tI 0 2, tN 0 1]) : ArgJ val := by_eq 6 0 h (fun h => by_eq 7 0 h (fun h => lf h [(.a 0), (.c 0), (.c 0), (.a 3), (.a 4), (.a 5), (.a 6), (.a 7), (.a 8), (.a 9), (.c 0), (.c 0), (.a 9)] (by kernel_rfl))
 (fun h => lf h [(.c 0), (.c 0), (.c 0), (.c 0), (.c 0), (.c 0), (.c 0), (.c 0), (.c 0), (.c 0), (.c 0), (.c 2), (.c 0)] (by kernel_rfl)))
 (fun h => lf h [(.c 0), (.c 0), (.c 0), (.c 0), (.c 0), (.c 0), (.c 0), (.c 0), (.c 0), (.c 0), (.c 0), (.c 2), (.c 0)] (by kernel_rfl))

theorem argJ_50 (val : Nat → Int) (h : Holds val [.at (.or (.eq (.a 7) (.c 1)) (.or (.eq (.a 7) (.c 2)) (.or (.eq (.a 7) (.c 4)) (.or (.eq (.a 7) (.c 8)) .ff)))) true, .le (.a 6) 15, .ge (.a 6) 0, tI 5 5, tN 5 0, tI 4 0, tI 3 8, tN 3 0, tI 9 1, tN 9 0, .le (.a 8) 2147483647, .ge (.a 8) (-2147483648), tI 0 2, tN 0 1]) : ArgJ val := by_way (.eq (.c 1) (.a 7)) (tI 7 1) (tN 7 1) rfl rfl h (fun h => lf h [(.c 0), (.c 0), (.c 0), (.c 0), (.c 0), (.c 0), (.c 0), (.c 0), (.c 0), (.c 0), (.c 0), (.c 2), (.c 0)] (by kernel_rfl))
 (fun h => by_way (.eq (.c 2) (.a 7)) (tI 7 2) (tN 7 2) rfl rfl h (fun h => lf h [(.c 0), (.c 0), (.c 0), (.c 0), (.c 0), (.c 0), (.c 0), (.c 0), (.c 0), (.c 0), (.c 0), (.c 2), (.c 0)] (by kernel_rfl))
 (fun h => by_way (.eq (.c 4) (.a 7)) (tI 7 4) (tN 7 4) rfl rfl h (fun h => lf h [(.c 0), (.c 0), (.c 0), (.c 0), (.c 0), (.c 0), (.c 0), (.c 0), (.c 0), (.c 0), (.c 0), (.c 2), (.c 0)] (by kernel_rfl))
 (fun h => by_way (.eq (.c 8) (.a 7)) (tI 7 8) (tN 7 8) rfl rfl h (fun h => lf h [(.c 0), (.c 0), (.c 0), (.c 0), (.c 0), (.c 0), (.c 0), (.c 0), (.c 0), (.c 0), (.c 0), (.c 2), (.c 0)] (by kernel_rfl))
 (fun h => lf h [(.c 0), (.c 0), (.c 0), (.c 0), (.c 0), (.c 0), (.c 0), (.c 0), (.c 0), (.c 0), (.c 0), (.c 2), (.c 0)] (by kernel_rfl)))))

theorem argJ_51 (val : Nat → Int) (h : Holds val [.at (.or (.eq (.a 7) (.c 1)) (.or (.eq (.a 7) (.c 2)) (.or (.eq (.a 7) (.c 4)) (.or (.eq (.a 7) (.c 8)) .ff)))) false, .le (.a 6) 15, .ge (.a 6) 0, tI 5 5, tN 5 0, tI 4 0, tI 3 8, tN 3 0, tI 9 1, tN 9 0, .le (.a 8) 2147483647, .ge (.a 8) (-2147483648), tI 0 2, tN 0 1]) : ArgJ val := by_way (.eq (.c 1) (.a 7)) (tI 7 1) (tN 7 1) rfl rfl h (fun h => lf h [(.c 0), (.c 0), (.c 0), (.c 0), (.c 0), (.c 0), (.c 0), (.c 0), (.c 0), (.c 0), (.c 0), (.c 2), (.c 0)] (by kernel_rfl))
 (fun h => by_way (.eq (.c 2) (.a 7)) (tI 7 2) (tN 7 2) rfl rfl h (fun h => lf h [(.c 0), (.c 0), (.c 0), (.c 0), (.c 0), (.c 0), (.c 0), (.c 0), (.c 0), (.c 0), (.c 0), (.c 2), (.c 0)] (by kernel_rfl))
 (fun h => by_way (.eq (.c 4) (.a 7)) (tI 7 4) (tN 7 4) rfl rfl h (fun h => lf h [(.c 0), (.c 0), (.c 0), (.c 0), (.c 0), (.c 0), (.c 0), (.c 0), (.c 0), (.c 0), (.c 0), (.c 2), (.c 0)] (by kernel_rfl))
 (fun h => by_way (.eq (.c 8) (.a 7)) (tI 7 8) (tN 7 8) rfl rfl h (fun h => lf h [(.c 0), (.c 0), (.c 0), (.c 0), (.c 0), (.c 0), (.c 0), (.c 0), (.c 0), (.c 0), (.c 0), (.c 2), (.c 0)] (by kernel_rfl))
 (fun h => lf h [(.c 0), (.c 0), (.c 0), (.c 0), (.c 0), (.c 0), (.c 0), (.c 0), (.c 0), (.c 0), (.c 0), (.c 2), (.c 0)] (by kernel_rfl)))))

theorem argJ_52 (val : Nat → Int) (h : Holds val [.ge (.a 6) 16, .ge (.a 6) 0, tI 5 5, tN 5 0, tI 4 0, tI 3 8, tN 3 0, tI 9 1, tN 9 0, .le (.a 8) 2147483647, .ge (.a 8) (-2147483648), tI 0 2, tN 0 1]) : ArgJ val := lf h [(.c 0), (.c 0), (.c 0), (.c 0), (.c 0), (.c 0), (.c 0), (.c 0), (.c 0), (.c 0), (.c 0), (.c 2), (.c 0)] (by kernel_rfl)

theorem argJ_53 (val : Nat → Int) (h : Holds val [.le (.a 6) (-1), tI 5 5, tN 5 0, tI 4 0, tI 3 8, tN 3 0, tI 9 1, tN 9 0, .le (.a 8) 2147483647, .ge (.a 8) (-2147483648), tI 0 2, tN 0 1]) : ArgJ val := lf h [(.c 0), (.c 0), (.c 0), (.c 0), (.c 0), (.c 0), (.c 0), (.c 0), (.c 0), (.c 0), (.c 0), (.c 2), (.c 0)] (by kernel_rfl)

theorem argJ_54 (val : Nat → Int) (h : Holds val [tN 5 5, tN 5 0, tI 4 0, tI 3 8, tN 3 0, tI 9 1, tN 9 0, .le (.a 8) 2147483647, .ge (.a 8) (-2147483648), tI 0 2, tN 0 1]) : ArgJ val := lf h [(.c 0), (.c 0), (.c 0), (.c 0), (.c 0), (.c 0), (.c 0), (.c 0), (.c 0), (.c 0), (.c 0), (.c 2), (.c 0)] (by kernel_rfl)

theorem argJ_55 (val : Nat → Int) (h : Holds val [tN 4 0, tI 3 8, tN 3 0, tI 9 1, tN 9 0, .le (.a 8) 2147483647, .ge (.a 8) (-2147483648), tI 0 2, tN 0 1]) : ArgJ val := lf h [(.c 0), (.c 0), (.c 0), (.c 0), (.c 0), (.c 0), (.c 0), (.c 0), (.c 0), (.c 0), (.c 0), (.c 2), (.c 0)] (by kernel_rfl)

theorem argJ_56 (val : Nat → Int) (h : Holds val [tI 5 0, .le (.a 4) 15, .ge (.a 4) 0, tI 3 5, tN 3 8, tN 3 0, tI 9 1, tN 9 0, .le (.a 8) 2147483647, .ge (.a 8) (-2147483648), tI 0 2, tN 0 1]) : ArgJ val := by_eq 6 0 h (fun h => by_eq 7 0 h (fun h => lf h [(.a 0), (.c 0), (.c 0), (.a 3), (.a 4), (.a 5), (.a 6), (.a 7), (.a 8), (.a 9), (.c 0), (.c 0), (.a 9)] (by kernel_rfl))
 (fun h => lf h [(.c 0), (.c 0), (.c 0), (.c 0), (.c 0), (.c 0), (.c 0), (.c 0), (.c 0), (.c 0), (.c 0), (.c 2), (.c 0)] (by kernel_rfl)))
 (fun h => lf h [(.c 0), (.c 0), (.c 0), (.c 0), (.c 0), (.c 0), (.c 0), (.c 0), (.c 0), (.c 0), (.c 0), (.c 2), (.c 0)] (by kernel_rfl))

theorem argJ_57 (val : Nat → Int) (h : Holds val [tI 6 4, .at (.or (.eq (.a 7) (.c 1)) (.or (.eq (.a 7) (.c 2)) (.or (.eq (.a 7) (.c 4)) (.or (.eq (.a 7) (.c 8)) .ff)))) true, .le (.a 6) 15, .ge (.a 6) 0, tI 5 5, tN 5 0, .le (.a 4) 15, .ge (.a 4) 0, tI 3 5, tN 3 8, tN 3 0, tI 9 1, tN 9 0, .le (.a 8) 2147483647, .ge (.a 8) (-2147483648), tI 0 2, tN 0 1]) : ArgJ val := by_eq 7 1 h (fun h => by_eq 4 4 h (fun h => lf h [(.c 0), (.c 0), (.c 0), (.c 0), (.c 0), (.c 0), (.c 0), (.c 0), (.c 0), (.c 0), (.c 0), (.c 2), (.c 0)] (by kernel_rfl))
 (fun h => lf h [(.a 0), (.c 0), (.c 0), (.a 5), (.a 6), (.a 3), (.a 4), (.a 7), (.a 8), (.a 9), (.c 0), (.c 0), (.a 9)] (by kernel_rfl)))
 (fun h => by_way (.eq (.c 2) (.a 7)) (tI 7 2) (tN 7 2) rfl rfl h (fun h => lf h [(.c 0), (.c 0), (.c 0), (.c 0), (.c 0), (.c 0), (.c 0), (.c 0), (.c 0), (.c 0), (.c 0), (.c 2), (.c 0)] (by kernel_rfl))
 (fun h => by_way (.eq (.c 4) (.a 7)) (tI 7 4) (tN 7 4) rfl rfl h (fun h => lf h [(.c 0), (.c 0), (.c 0), (.c 0), (.c 0), (.c 0), (.c 0), (.c 0), (.c 0), (.c 0), (.c 0), (.c 2), (.c 0)] (by kernel_rfl))
 (fun h => by_way (.eq (.c 8) (.a 7)) (tI 7 8) (tN 7 8) rfl rfl h (fun h => lf h [(.c 0), (.c 0), (.c 0), (.c 0), (.c 0), (.c 0), (.c 0), (.c 0), (.c 0), (.c 0), (.c 0), (.c 2), (.c 0)] (by kernel_rfl))
 (fun h => lf h [(.c 0), (.c 0), (.c 0), (.c 0), (.c 0), (.c 0), (.c 0), (.c 0), (.c 0), (.c 0), (.c 0), (.c 2), (.c 0)] (by kernel_rfl)))))

theorem argJ_58 (val : Nat → Int) (h : Holds val [tN 6 4, .at (.or (.eq (.a 7) (.c 1)) (.or (.eq (.a 7) (.c 2)) (.or (.eq (.a 7) (.c 4)) (.or (.eq (.a 7) (.c 8)) .ff)))) true, .le (.a 6) 15, .ge (.a 6) 0, tI 5 5, tN 5 0, .le (.a 4) 15, .ge (.a 4) 0, tI 3 5, tN 3 8, tN 3 0, tI 9 1, tN 9 0, .le (.a 8) 2147483647, .ge (.a 8) (-2147483648), tI 0 2, tN 0 1]) : ArgJ val := by_eq 7 1 h (fun h => lf h [(.a 0), (.c 0), (.c 0), (.a 3), (.a 4), (.a 5), (.a 6), (.a 7), (.a 8), (.a 9), (.c 0), (.c 0), (.a 9)] (by kernel_rfl))
 (fun h => by_way (.eq (.c 2) (.a 7)) (tI 7 2) (tN 7 2) rfl rfl h (fun h => lf h [(.a 0), (.c 0), (.c 0), (.a 3), (.a 4), (.a 5), (.a 6), (.a 7), (.a 8), (.a 9), (.c 0), (.c 0), (.a 9)] (by kernel_rfl))
 (fun h => by_way (.eq (.c 4) (.a 7)) (tI 7 4) (tN 7 4) rfl rfl h (fun h => lf h [(.a 0), (.c 0), (.c 0), (.a 3), (.a 4), (.a 5), (.a 6), (.a 7), (.a 8), (.a 9), (.c 0), (.c 0), (.a 9)] (by kernel_rfl))
 (fun h => by_way (.eq (.c 8) (.a 7)) (tI 7 8) (tN 7 8) rfl rfl h (fun h => lf h [(.a 0), (.c 0), (.c 0), (.a 3), (.a 4), (.a 5), (.a 6), (.a 7), (.a 8), (.a 9), (.c 0), (.c 0), (.a 9)] (by kernel_rfl))
 (fun h => lf h [(.c 0), (.c 0), (.c 0), (.c 0), (.c 0), (.c 0), (.c 0), (.c 0), (.c 0), (.c 0), (.c 0), (.c 2), (.c 0)] (by kernel_rfl)))))

theorem argJ_59 (val : Nat → Int) (h : Holds val [tI 7 1, .at (.or (.eq (.a 7) (.c 1)) (.or (.eq (.a 7) (.c 2)) (.or (.eq (.a 7) (.c 4)) (.or (.eq (.a 7) (.c 8)) .ff)))) false, .le (.a 6) 15, .ge (.a 6) 0, tI 5 5, tN 5 0, .le (.a 4) 15, .ge (.a 4) 0, tI 3 5, tN 3 8, tN 3 0, tI 9 1, tN 9 0, .le (.a 8) 2147483647, .ge (.a 8) (-2147483648), tI 0 2, tN 0 1]) : ArgJ val := by_eq 6 4 h (fun h => by_eq 4 4 h (fun h => lf h [(.c 0), (.c 0), (.c 0), (.c 0), (.c 0), (.c 0), (.c 0), (.c 0), (.c 0), (.c 0), (.c 0), (.c 2), (.c 0)] (by kernel_rfl))
 (fun h => lf h [(.a 0), (.c 0), (.c 0), (.a 5), (.a 6), (.a 3), (.a 4), (.a 7), (.a 8), (.a 9), (.c 0), (.c 0), (.a 9)] (by kernel_rfl)))
 (fun h => lf h [(.a 0), (.c 0), (.c 0), (.a 3), (.a 4), (.a 5), (.a 6), (.a 7), (.a 8), (.a 9), (.c 0), (.c 0), (.a 9)] (by kernel_rfl))

theorem argJ_60 (val : Nat → Int) (h : Holds val [tI 7 2, tN 7 1, .at (.or (.eq (.a 7) (.c 1)) (.or (.eq (.a 7) (.c 2)) (.or (.eq (.a 7) (.c 4)) (.or (.eq (.a 7) (.c 8)) .ff)))) false, .le (.a 6) 15, .ge (.a 6) 0, tI 5 5, tN 5 0, .le (.a 4) 15, .ge (.a 4) 0, tI 3 5, tN 3 8, tN 3 0, tI 9 1, tN 9 0, .le (.a 8) 2147483647, .ge (.a 8) (-2147483648), tI 0 2, tN 0 1]) : ArgJ val := by_eq 6 4 h (fun h => lf h [(.c 0), (.c 0), (.c 0), (.c 0), (.c 0), (.c 0), (.c 0), (.c 0), (.c 0), (.c 0), (.c 0), (.c 2), (.c 0)] (by kernel_rfl))
 (fun h => lf h [(.a 0), (.c 0), (.c 0), (.a 3), (.a 4), (.a 5), (.a 6), (.a 7), (.a 8), (.a 9), (.c 0), (.c 0), (.a 9)] (by kernel_rfl))

theorem argJ_61 (val : Nat → Int) (h : Holds val [tN 7 2, tN 7 1, .at (.or (.eq (.a 7) (.c 1)) (.or (.eq (.a 7) (.c 2)) (.or (.eq (.a 7) (.c 4)) (.or (.eq (.a 7) (.c 8)) .ff)))) false, .le (.a 6) 15, .ge (.a 6) 0, tI 5 5, tN 5 0, .le (.a 4) 15, .ge (.a 4) 0, tI 3 5, tN 3 8, tN 3 0, tI 9 1, tN 9 0, .le (.a 8) 2147483647, .ge (.a 8) (-2147483648), tI 0 2, tN 0 1]) : ArgJ val := by_way (.eq (.c 4) (.a 7)) (tI 7 4) (tN 7 4) rfl rfl h (fun h => by_eq 6 4 h (fun h => lf h [(.c 0), (.c 0), (.c 0), (.c 0), (.c 0), (.c 0), (.c 0), (.c 0), (.c 0), (.c 0), (.c 0), (.c 2), (.c 0)] (by kernel_rfl))
 (fun h => lf h [(.a 0), (.c 0), (.c 0), (.a 3), (.a 4), (.a 5), (.a 6), (.a 7), (.a 8), (.a 9), (.c 0), (.c 0), (.a 9)] (by kernel_rfl)))
 (fun h => by_way (.eq (.c 8) (.a 7)) (tI 7 8) (tN 7 8) rfl rfl h (fun h => by_eq 6 4 h (fun h => lf h [(.c 0), (.c 0), (.c 0), (.c 0), (.c 0), (.c 0), (.c 0), (.c 0), (.c 0), (.c 0), (.c 0), (.c 2), (.c 0)] (by kernel_rfl))
 (fun h => lf h [(.a 0), (.c 0), (.c 0), (.a 3), (.a 4), (.a 5), (.a 6), (.a 7), (.a 8), (.a 9), (.c 0), (.c 0), (.a 9)] (by kernel_rfl)))
 (fun h => lf h [(.c 0), (.c 0), (.c 0), (.c 0), (.c 0), (.c 0), (.c 0), (.c 0), (.c 0), (.c 0), (.c 0), (.c 2), (.c 0)] (by kernel_rfl)))

theorem argJ_62 (val : Nat → Int) (h : Holds val [.ge (.a 6) 16, .ge (.a 6) 0, tI 5 5, tN 5 0, .le (.a 4) 15, .ge (.a 4) 0, tI 3 5, tN 3 8, tN 3 0, tI 9 1, tN 9 0, .le (.a 8) 2147483647, .ge (.a 8) (-2147483648), tI 0 2, tN 0 1]) : ArgJ val := lf h [(.c 0), (.c 0), (.c 0), (.c 0), (.c 0), (.c 0), (.c 0), (.c 0), (.c 0), (.c 0), (.c 0), (.c 2), (.c 0)] (by kernel_rfl)

theorem argJ_63 (val : Nat → Int) (h : Holds val [.le (.a 6) (-1), tI 5 5, tN 5 0, .le (.a 4) 15, .ge (.a 4) 0, tI 3 5, tN 3 8, tN 3 0, tI 9 1, tN 9 0, .le (.a 8) 2147483647, .ge (.a 8) (-2147483648), tI 0 2, tN 0 1]) : ArgJ val := lf h [(.c 0), (.c 0), (.c 0), (.c 0), (.c 0), (.c 0), (.c 0), (.c 0), (.c 0), (.c 0), (.c 0), (.c 2), (.c 0)] (by kernel_rfl)

theorem argJ_64 (val : Nat → Int) (h : Holds val [tN 5 5, tN 5 0, .le (.a 4) 15, .ge (.a 4) 0, tI 3 5, tN 3 8, tN 3 0, tI 9 1, tN 9 0, .le (.a 8) 2147483647, .ge (.a 8) (-2147483648), tI 0 2, tN 0 1]) : ArgJ val := lf h [(.c 0), (.c 0), (.c 0), (.c 0), (.c 0), (.c 0), (.c 0), (.c 0), (.c 0), (.c 0), (.c 0), (.c 2), (.c 0)] (by kernel_rfl)

theorem argJ_65 (val : Nat → Int) (h : Holds val [.ge (.a 4) 16, .ge (.a 4) 0, tI 3 5, tN 3 8, tN 3 0, tI 9 1, tN 9 0, .le (.a 8) 2147483647, .ge (.a 8) (-2147483648), tI 0 2, tN 0 1]) : ArgJ val := lf h [(.c 0), (.c 0), (.c 0), (.c 0), (.c 0), (.c 0), (.c 0), (.c 0), (.c 0), (.c 0), (.c 0), (.c 2), (.c 0)] (by kernel_rfl)

theorem argJ_66 (val : Nat → Int) (h : Holds val [.le (.a 4) (-1), tI 3 5, tN 3 8, tN 3 0, tI 9 1, tN 9 0, .le (.a 8) 2147483647, .ge (.a 8) (-2147483648), tI 0 2, tN 0 1]) : ArgJ val := lf h [(.c 0), (.c 0), (.c 0), (.c 0), (.c 0), (.c 0), (.c 0), (.c 0), (.c 0), (.c 0), (.c 0), (.c 2), (.c 0)] (by kernel_rfl)

theorem argJ_67 (val : Nat → Int) (h : Holds val [tN 3 5, tN 3 8, tN 3 0, tI 9 1, tN 9 0, .le (.a 8) 2147483647, .ge (.a 8) (-2147483648), tI 0 2, tN 0 1]) : ArgJ val := lf h [(.c 0), (.c 0), (.c 0), (.c 0), (.c 0), (.c 0), (.c 0), (.c 0), (.c 0), (.c 0), (.c 0), (.c 2), (.c 0)] (by kernel_rfl)

theorem argJ_68 (val : Nat → Int) (h : Holds val [tI 5 0, tI 4 0, tI 3 0, tI 9 2, tN 9 1, tN 9 0, .le (.a 8) 2147483647, .ge (.a 8) (-2147483648), tI 0 2, tN 0 1]) : ArgJ val := by_eq 6 0 h (fun h => by_eq 7 0 h (fun h => lf h [(.a 0), (.c 0), (.c 0), (.a 3), (.a 4), (.a 5), (.a 6), (.a 7), (.a 8), (.a 9), (.c 0), (.c 0), (.a 9)] (by kernel_rfl))
 (fun h => lf h [(.c 0), (.c 0), (.c 0), (.c 0), (.c 0), (.c 0), (.c 0), (.c 0), (.c 0), (.c 0), (.c 0), (.c 2), (.c 0)] (by kernel_rfl)))
 (fun h => lf h [(.c 0), (.c 0), (.c 0), (.c 0), (.c 0), (.c 0), (.c 0), (.c 0), (.c 0), (.c 0), (.c 0), (.c 2), (.c 0)] (by kernel_rfl))

theorem argJ_69 (val : Nat → Int) (h : Holds val [tI 6 4, .at (.or (.eq (.a 7) (.c 1)) (.or (.eq (.a 7) (.c 2)) (.or (.eq (.a 7) (.c 4)) (.or (.eq (.a 7) (.c 8)) .ff)))) true, .le (.a 6) 15, .ge (.a 6) 0, tI 5 5, tN 5 0, tI 4 0, tI 3 0, tI 9 2, tN 9 1, tN 9 0, .le (.a 8) 2147483647, .ge (.a 8) (-2147483648), tI 0 2, tN 0 1]) : ArgJ val := by_eq 7 1 h (fun h => lf h [(.a 0), (.c 0), (.c 0), (.a 5), (.a 6), (.c 0), (.c 0), (.c 0), (.a 8), (.a 9), (.c 0), (.c 0), (.a 9)] (by kernel_rfl))
 (fun h => by_way (.eq (.c 2) (.a 7)) (tI 7 2) (tN 7 2) rfl rfl h (fun h => lf h [(.c 0), (.c 0), (.c 0), (.c 0), (.c 0), (.c 0), (.c 0), (.c 0), (.c 0), (.c 0), (.c 0), (.c 2), (.c 0)] (by kernel_rfl))
 (fun h => by_way (.eq (.c 4) (.a 7)) (tI 7 4) (tN 7 4) rfl rfl h (fun h => lf h [(.c 0), (.c 0), (.c 0), (.c 0), (.c 0), (.c 0), (.c 0), (.c 0), (.c 0), (.c 0), (.c 0), (.c 2), (.c 0)] (by kernel_rfl))
 (fun h => by_way (.eq (.c 8) (.a 7)) (tI 7 8) (tN 7 8) rfl rfl h (fun h => lf h [(.c 0), (.c 0), (.c 0), (.c 0), (.c 0), (.c 0), (.c 0), (.c 0), (.c 0), (.c 0), (.c 0), (.c 2), (.c 0)] (by kernel_rfl))
 (fun h => lf h [(.c 0), (.c 0), (.c 0), (.c 0), (.c 0), (.c 0), (.c 0), (.c 0), (.c 0), (.c 0), (.c 0), (.c 2), (.c 0)] (by kernel_rfl)))))

theorem argJ_70 (val : Nat → Int) (h : Holds val [tN 6 4, .at (.or (.eq (.a 7) (.c 1)) (.or (.eq (.a 7) (.c 2)) (.or (.eq (.a 7) (.c 4)) (.or (.eq (.a 7) (.c 8)) .ff)))) true, .le (.a 6) 15, .ge (.a 6) 0, tI 5 5, tN 5 0, tI 4 0, tI 3 0, tI 9 2, tN 9 1, tN 9 0, .le (.a 8) 2147483647, .ge (.a 8) (-2147483648), tI 0 2, tN 0 1]) : ArgJ val := by_eq 7 1 h (fun h => lf h [(.a 0), (.c 0), (.c 0), (.a 5), (.a 6), (.c 0), (.c 0), (.c 0), (.a 8), (.a 9), (.c 0), (.c 0), (.a 9)] (by kernel_rfl))
 (fun h => by_way (.eq (.c 2) (.a 7)) (tI 7 2) (tN 7 2) rfl rfl h (fun h => lf h [(.a 0), (.c 0), (.c 0), (.a 3), (.a 4), (.a 5), (.a 6), (.a 7), (.a 8), (.a 9), (.c 0), (.c 0), (.a 9)] (by kernel_rfl))
 (fun h => by_way (.eq (.c 4) (.a 7)) (tI 7 4) (tN 7 4) rfl rfl h (fun h => lf h [(.a 0), (.c 0), (.c 0), (.a 3), (.a 4), (.a 5), (.a 6), (.a 7), (.a 8), (.a 9), (.c 0), (.c 0), (.a 9)] (by kernel_rfl))
 (fun h => by_way (.eq (.c 8) (.a 7)) (tI 7 8) (tN 7 8) rfl rfl h (fun h => lf h [(.a 0), (.c 0), (.c 0), (.a 3), (.a 4), (.a 5), (.a 6), (.a 7), (.a 8), (.a 9), (.c 0), (.c 0), (.a 9)] (by kernel_rfl))
 (fun h => lf h [(.c 0), (.c 0), (.c 0), (.c 0), (.c 0), (.c 0), (.c 0), (.c 0), (.c 0), (.c 0), (.c 0), (.c 2), (.c 0)] (by kernel_rfl)))))

theorem argJ_71 (val : Nat → Int) (h : Holds val [tI 7 1, .at (.or (.eq (.a 7) (.c 1)) (.or (.eq (.a 7) (.c 2)) (.or (.eq (.a 7) (.c 4)) (.or (.eq (.a 7) (.c 8)) .ff)))) false, .le (.a 6) 15, .ge (.a 6) 0, tI 5 5, tN 5 0, tI 4 0, tI 3 0, tI 9 2, tN 9 1, tN 9 0, .le (.a 8) 2147483647, .ge (.a 8) (-2147483648), tI 0 2, tN 0 1]) : ArgJ val := by_eq 6 4 h (fun h => lf h [(.a 0), (.c 0), (.c 0), (.a 5), (.a 6), (.c 0), (.c 0), (.c 0), (.a 8), (.a 9), (.c 0), (.c 0), (.a 9)] (by kernel_rfl))
 (fun h => lf h [(.a 0), (.c 0), (.c 0), (.a 5), (.a 6), (.c 0), (.c 0), (.c 0), (.a 8), (.a 9), (.c 0), (.c 0), (.a 9)] (by kernel_rfl))

end Go.Proofs.Ytndiilfjeconbaa.Tab
