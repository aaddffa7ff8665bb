/-
  Ways through the code, part 3.
-/
import Derived.Test.YtndiilfjeconbaaArgJH
namespace Go.Proofs.Ytndiilfjeconbaa.Tab
open Go.Sim
set_option maxRecDepth 100000
set_option linter.unusedSimpArgs false
set_option maxHeartbeats 4000000

theorem argJ_108 (val : Nat → Int) (h : Holds val [.at (.or (.eq (.a 7) (.c 1)) (.or (.eq (.a 7) (.c 2)) (.or (.eq (.a 7) (.c 4)) (.or (.eq (.a 7) (.c 8)) .ff)))) true, .le (.a 6) 15, .ge (.a 6) 0, tI 5 5, tN 5 0, tI 4 0, tI 3 8, tN 3 0, tI 9 4, tN 9 2, tN 9 1, tN 9 0, .le (.a 8) 2147483647, .ge (.a 8) (-2147483648), tI 0 2, tN 0 1]) : ArgJ val := by_way (.eq (.c 1) (.a 7)) (tI 7 1) (tN 7 1) rfl rfl h (fun h => lf h [(.c 0), (.c 0), (.c 0), (.c 0), (.c 0), (.c 0), (.c 0), (.c 0), (.c 0), (.c 0), (.c 0), (.c 2), (.c 0)] (by kernel_rfl))
 (fun h => by_way (.eq (.c 2) (.a 7)) (tI 7 2) (tN 7 2) rfl rfl h (fun h => lf h [(.c 0), (.c 0), (.c 0), (.c 0), (.c 0), (.c 0), (.c 0), (.c 0), (.c 0), (.c 0), (.c 0), (.c 2), (.c 0)] (by kernel_rfl))
 (fun h => by_way (.eq (.c 4) (.a 7)) (tI 7 4) (tN 7 4) rfl rfl h (fun h => lf h [(.c 0), (.c 0), (.c 0), (.c 0), (.c 0), (.c 0), (.c 0), (.c 0), (.c 0), (.c 0), (.c 0), (.c 2), (.c 0)] (by kernel_rfl))
 (fun h => by_way (.eq (.c 8) (.a 7)) (tI 7 8) (tN 7 8) rfl rfl h (fun h => lf h [(.c 0), (.c 0), (.c 0), (.c 0), (.c 0), (.c 0), (.c 0), (.c 0), (.c 0), (.c 0), (.c 0), (.c 2), (.c 0)] (by kernel_rfl))
 (fun h => lf h [(.c 0), (.c 0), (.c 0), (.c 0), (.c 0), (.c 0), (.c 0), (.c 0), (.c 0), (.c 0), (.c 0), (.c 2), (.c 0)] (by kernel_rfl)))))

theorem argJ_109 (val : Nat → Int) (h : Holds val [.at (.or (.eq (.a 7) (.c 1)) (.or (.eq (.a 7) (.c 2)) (.or (.eq (.a 7) (.c 4)) (.or (.eq (.a 7) (.c 8)) .ff)))) false, .le (.a 6) 15, .ge (.a 6) 0, tI 5 5, tN 5 0, tI 4 0, tI 3 8, tN 3 0, tI 9 4, tN 9 2, tN 9 1, tN 9 0, .le (.a 8) 2147483647, .ge (.a 8) (-2147483648), tI 0 2, tN 0 1]) : ArgJ val := by_way (.eq (.c 1) (.a 7)) (tI 7 1) (tN 7 1) rfl rfl h (fun h => lf h [(.c 0), (.c 0), (.c 0), (.c 0), (.c 0), (.c 0), (.c 0), (.c 0), (.c 0), (.c 0), (.c 0), (.c 2), (.c 0)] (by kernel_rfl))
 (fun h => by_way (.eq (.c 2) (.a 7)) (tI 7 2) (tN 7 2) rfl rfl h (fun h => lf h [(.c 0), (.c 0), (.c 0), (.c 0), (.c 0), (.c 0), (.c 0), (.c 0), (.c 0), (.c 0), (.c 0), (.c 2), (.c 0)] (by kernel_rfl))
 (fun h => by_way (.eq (.c 4) (.a 7)) (tI 7 4) (tN 7 4) rfl rfl h (fun h => lf h [(.c 0), (.c 0), (.c 0), (.c 0), (.c 0), (.c 0), (.c 0), (.c 0), (.c 0), (.c 0), (.c 0), (.c 2), (.c 0)] (by kernel_rfl))
 (fun h => by_way (.eq (.c 8) (.a 7)) (tI 7 8) (tN 7 8) rfl rfl h (fun h => lf h [(.c 0), (.c 0), (.c 0), (.c 0), (.c 0), (.c 0), (.c 0), (.c 0), (.c 0), (.c 0), (.c 0), (.c 2), (.c 0)] (by kernel_rfl))
 (fun h => lf h [(.c 0), (.c 0), (.c 0), (.c 0), (.c 0), (.c 0), (.c 0), (.c 0), (.c 0), (.c 0), (.c 0), (.c 2), (.c 0)] (by kernel_rfl)))))

theorem argJ_110 (val : Nat → Int) (h : Holds val [.ge (.a 6) 16, .ge (.a 6) 0, tI 5 5, tN 5 0, tI 4 0, tI 3 8, tN 3 0, tI 9 4, tN 9 2, tN 9 1, tN 9 0, .le (.a 8) 2147483647, .ge (.a 8) (-2147483648), tI 0 2, tN 0 1]) : ArgJ val := lf h [(.c 0), (.c 0), (.c 0), (.c 0), (.c 0), (.c 0), (.c 0), (.c 0), (.c 0), (.c 0), (.c 0), (.c 2), (.c 0)] (by kernel_rfl)

theorem argJ_111 (val : Nat → Int) (h : Holds val [.le (.a 6) (-1), tI 5 5, tN 5 0, tI 4 0, tI 3 8, tN 3 0, tI 9 4, tN 9 2, tN 9 1, tN 9 0, .le (.a 8) 2147483647, .ge (.a 8) (-2147483648), tI 0 2, tN 0 1]) : ArgJ val := lf h [(.c 0), (.c 0), (.c 0), (.c 0), (.c 0), (.c 0), (.c 0), (.c 0), (.c 0), (.c 0), (.c 0), (.c 2), (.c 0)] (by kernel_rfl)

theorem argJ_112 (val : Nat → Int) (h : Holds val [tN 5 5, tN 5 0, tI 4 0, tI 3 8, tN 3 0, tI 9 4, tN 9 2, tN 9 1, tN 9 0, .le (.a 8) 2147483647, .ge (.a 8) (-2147483648), tI 0 2, tN 0 1]) : ArgJ val := lf h [(.c 0), (.c 0), (.c 0), (.c 0), (.c 0), (.c 0), (.c 0), (.c 0), (.c 0), (.c 0), (.c 0), (.c 2), (.c 0)] (by kernel_rfl)

theorem argJ_113 (val : Nat → Int) (h : Holds val [tN 4 0, tI 3 8, tN 3 0, tI 9 4, tN 9 2, tN 9 1, tN 9 0, .le (.a 8) 2147483647, .ge (.a 8) (-2147483648), tI 0 2, tN 0 1]) : ArgJ val := lf h [(.c 0), (.c 0), (.c 0), (.c 0), (.c 0), (.c 0), (.c 0), (.c 0), (.c 0), (.c 0), (.c 0), (.c 2), (.c 0)] (by kernel_rfl)

theorem argJ_114 (val : Nat → Int) (h : Holds val [tI 5 0, .le (.a 4) 15, .ge (.a 4) 0, tI 3 5, tN 3 8, tN 3 0, tI 9 4, tN 9 2, tN 9 1, tN 9 0, .le (.a 8) 2147483647, .ge (.a 8) (-2147483648), tI 0 2, tN 0 1]) : ArgJ val := by_eq 6 0 h (fun h => by_eq 7 0 h (fun h => lf h [(.a 0), (.c 0), (.c 0), (.a 3), (.a 4), (.a 5), (.a 6), (.a 7), (.a 8), (.a 9), (.c 0), (.c 0), (.a 9)] (by kernel_rfl))
 (fun h => lf h [(.c 0), (.c 0), (.c 0), (.c 0), (.c 0), (.c 0), (.c 0), (.c 0), (.c 0), (.c 0), (.c 0), (.c 2), (.c 0)] (by kernel_rfl)))
 (fun h => lf h [(.c 0), (.c 0), (.c 0), (.c 0), (.c 0), (.c 0), (.c 0), (.c 0), (.c 0), (.c 0), (.c 0), (.c 2), (.c 0)] (by kernel_rfl))

theorem argJ_115 (val : Nat → Int) (h : Holds val [tI 6 4, .at (.or (.eq (.a 7) (.c 1)) (.or (.eq (.a 7) (.c 2)) (.or (.eq (.a 7) (.c 4)) (.or (.eq (.a 7) (.c 8)) .ff)))) true, .le (.a 6) 15, .ge (.a 6) 0, tI 5 5, tN 5 0, .le (.a 4) 15, .ge (.a 4) 0, tI 3 5, tN 3 8, tN 3 0, tI 9 4, tN 9 2, tN 9 1, tN 9 0, .le (.a 8) 2147483647, .ge (.a 8) (-2147483648), tI 0 2, tN 0 1]) : ArgJ val := by_eq 7 1 h (fun h => by_eq 4 4 h (fun h => lf h [(.c 0), (.c 0), (.c 0), (.c 0), (.c 0), (.c 0), (.c 0), (.c 0), (.c 0), (.c 0), (.c 0), (.c 2), (.c 0)] (by kernel_rfl))
 (fun h => lf h [(.a 0), (.c 0), (.c 0), (.a 5), (.a 6), (.a 3), (.a 4), (.a 7), (.a 8), (.a 9), (.c 0), (.c 0), (.a 9)] (by kernel_rfl)))
 (fun h => by_way (.eq (.c 2) (.a 7)) (tI 7 2) (tN 7 2) rfl rfl h (fun h => lf h [(.c 0), (.c 0), (.c 0), (.c 0), (.c 0), (.c 0), (.c 0), (.c 0), (.c 0), (.c 0), (.c 0), (.c 2), (.c 0)] (by kernel_rfl))
 (fun h => by_way (.eq (.c 4) (.a 7)) (tI 7 4) (tN 7 4) rfl rfl h (fun h => lf h [(.c 0), (.c 0), (.c 0), (.c 0), (.c 0), (.c 0), (.c 0), (.c 0), (.c 0), (.c 0), (.c 0), (.c 2), (.c 0)] (by kernel_rfl))
 (fun h => by_way (.eq (.c 8) (.a 7)) (tI 7 8) (tN 7 8) rfl rfl h (fun h => lf h [(.c 0), (.c 0), (.c 0), (.c 0), (.c 0), (.c 0), (.c 0), (.c 0), (.c 0), (.c 0), (.c 0), (.c 2), (.c 0)] (by kernel_rfl))
 (fun h => lf h [(.c 0), (.c 0), (.c 0), (.c 0), (.c 0), (.c 0), (.c 0), (.c 0), (.c 0), (.c 0), (.c 0), (.c 2), (.c 0)] (by kernel_rfl)))))

theorem argJ_116 (val : Nat → Int) (h : Holds val [tN 6 4, .at (.or (.eq (.a 7) (.c 1)) (.or (.eq (.a 7) (.c 2)) (.or (.eq (.a 7) (.c 4)) (.or (.eq (.a 7) (.c 8)) .ff)))) true, .le (.a 6) 15, .ge (.a 6) 0, tI 5 5, tN 5 0, .le (.a 4) 15, .ge (.a 4) 0, tI 3 5, tN 3 8, tN 3 0, tI 9 4, tN 9 2, tN 9 1, tN 9 0, .le (.a 8) 2147483647, .ge (.a 8) (-2147483648), tI 0 2, tN 0 1]) : ArgJ val := by_eq 7 1 h (fun h => lf h [(.a 0), (.c 0), (.c 0), (.a 3), (.a 4), (.a 5), (.a 6), (.a 7), (.a 8), (.a 9), (.c 0), (.c 0), (.a 9)] (by kernel_rfl))
 (fun h => by_way (.eq (.c 2) (.a 7)) (tI 7 2) (tN 7 2) rfl rfl h (fun h => lf h [(.a 0), (.c 0), (.c 0), (.a 3), (.a 4), (.a 5), (.a 6), (.a 7), (.a 8), (.a 9), (.c 0), (.c 0), (.a 9)] (by kernel_rfl))
 (fun h => by_way (.eq (.c 4) (.a 7)) (tI 7 4) (tN 7 4) rfl rfl h (fun h => lf h [(.a 0), (.c 0), (.c 0), (.a 3), (.a 4), (.a 5), (.a 6), (.a 7), (.a 8), (.a 9), (.c 0), (.c 0), (.a 9)] (by kernel_rfl))
 (fun h => by_way (.eq (.c 8) (.a 7)) (tI 7 8) (tN 7 8) rfl rfl h (fun h => lf h [(.a 0), (.c 0), (.c 0), (.a 3), (.a 4), (.a 5), (.a 6), (.a 7), (.a 8), (.a 9), (.c 0), (.c 0), (.a 9)] (by kernel_rfl))
 (fun h => lf h [(.c 0), (.c 0), (.c 0), (.c 0), (.c 0), (.c 0), (.c 0), (.c 0), (.c 0), (.c 0), (.c 0), (.c 2), (.c 0)] (by kernel_rfl)))))

theorem argJ_117 (val : Nat → Int) (h : Holds val [tI 7 1, .at (.or (.eq (.a 7) (.c 1)) (.or (.eq (.a 7) (.c 2)) (.or (.eq (.a 7) (.c 4)) (.or (.eq (.a 7) (.c 8)) .ff)))) false, .le (.a 6) 15, .ge (.a 6) 0, tI 5 5, tN 5 0, .le (.a 4) 15, .ge (.a 4) 0, tI 3 5, tN 3 8, tN 3 0, tI 9 4, tN 9 2, tN 9 1, tN 9 0, .le (.a 8) 2147483647, .ge (.a 8) (-2147483648), tI 0 2, tN 0 1]) : ArgJ val := by_eq 6 4 h (fun h => by_eq 4 4 h (fun h => lf h [(.c 0), (.c 0), (.c 0), (.c 0), (.c 0), (.c 0), (.c 0), (.c 0), (.c 0), (.c 0), (.c 0), (.c 2), (.c 0)] (by kernel_rfl))
 (fun h => lf h [(.a 0), (.c 0), (.c 0), (.a 5), (.a 6), (.a 3), (.a 4), (.a 7), (.a 8), (.a 9), (.c 0), (.c 0), (.a 9)] (by kernel_rfl)))
 (fun h => lf h [(.a 0), (.c 0), (.c 0), (.a 3), (.a 4), (.a 5), (.a 6), (.a 7), (.a 8), (.a 9), (.c 0), (.c 0), (.a 9)] (by kernel_rfl))

theorem argJ_118 (val : Nat → Int) (h : Holds val [tI 7 2, tN 7 1, .at (.or (.eq (.a 7) (.c 1)) (.or (.eq (.a 7) (.c 2)) (.or (.eq (.a 7) (.c 4)) (.or (.eq (.a 7) (.c 8)) .ff)))) false, .le (.a 6) 15, .ge (.a 6) 0, tI 5 5, tN 5 0, .le (.a 4) 15, .ge (.a 4) 0, tI 3 5, tN 3 8, tN 3 0, tI 9 4, tN 9 2, tN 9 1, tN 9 0, .le (.a 8) 2147483647, .ge (.a 8) (-2147483648), tI 0 2, tN 0 1]) : ArgJ val := by_eq 6 4 h (fun h => lf h [(.c 0), (.c 0), (.c 0), (.c 0), (.c 0), (.c 0), (.c 0), (.c 0), (.c 0), (.c 0), (.c 0), (.c 2), (.c 0)] (by kernel_rfl))
 (fun h => lf h [(.a 0), (.c 0), (.c 0), (.a 3), (.a 4), (.a 5), (.a 6), (.a 7), (.a 8), (.a 9), (.c 0), (.c 0), (.a 9)] (by kernel_rfl))

theorem argJ_119 (val : Nat → Int) (h : Holds val [tN 7 2, tN 7 1, .at (.or (.eq (.a 7) (.c 1)) (.or (.eq (.a 7) (.c 2)) (.or (.eq (.a 7) (.c 4)) (.or (.eq (.a 7) (.c 8)) .ff)))) false, .le (.a 6) 15, .ge (.a 6) 0, tI 5 5, tN 5 0, .le (.a 4) 15, .ge (.a 4) 0, tI 3 5, tN 3 8, tN 3 0, tI 9 4, tN 9 2, tN 9 1, tN 9 0, .le (.a 8) 2147483647, .ge (.a 8) (-2147483648), tI 0 2, tN 0 1]) : ArgJ val := by_way (.eq (.c 4) (.a 7)) (tI 7 4) (tN 7 4) rfl rfl h (fun h => by_eq 6 4 h (fun h => lf h [(.c 0), (.c 0), (.c 0), (.c 0), (.c 0), (.c 0), (.c 0), (.c 0), (.c 0), (.c 0), (.c 0), (.c 2), (.c 0)] (by kernel_rfl))
 (fun h => lf h [(.a 0), (.c 0), (.c 0), (.a 3), (.a 4), (.a 5), (.a 6), (.a 7), (.a 8), (.a 9), (.c 0), (.c 0), (.a 9)] (by kernel_rfl)))
 (fun h => by_way (.eq (.c 8) (.a 7)) (tI 7 8) (tN 7 8) rfl rfl h (fun h => by_eq 6 4 h (fun h => lf h [(.c 0), (.c 0), (.c 0), (.c 0), (.c 0), (.c 0), (.c 0), (.c 0), (.c 0), (.c 0), (.c 0), (.c 2), (.c 0)] (by kernel_rfl))
 (fun h => lf h [(.a 0), (.c 0), (.c 0), (.a 3), (.a 4), (.a 5), (.a 6), (.a 7), (.a 8), (.a 9), (.c 0), (.c 0), (.a 9)] (by kernel_rfl)))
 (fun h => lf h [(.c 0), (.c 0), (.c 0), (.c 0), (.c 0), (.c 0), (.c 0), (.c 0), (.c 0), (.c 0), (.c 0), (.c 2), (.c 0)] (by kernel_rfl)))

theorem argJ_120 (val : Nat → Int) (h : Holds val [.ge (.a 6) 16, .ge (.a 6) 0, tI 5 5, tN 5 0, .le (.a 4) 15, .ge (.a 4) 0, tI 3 5, tN 3 8, tN 3 0, tI 9 4, tN 9 2, tN 9 1, tN 9 0, .le (.a 8) 2147483647, .ge (.a 8) (-2147483648), tI 0 2, tN 0 1]) : ArgJ val := lf h [(.c 0), (.c 0), (.c 0), (.c 0), (.c 0), (.c 0), (.c 0), (.c 0), (.c 0), (.c 0), (.c 0), (.c 2), (.c 0)] (by kernel_rfl)

theorem argJ_121 (val : Nat → Int) (h : Holds val [.le (.a 6) (-1), tI 5 5, tN 5 0, .le (.a 4) 15, .ge (.a 4) 0, tI 3 5, tN 3 8, tN 3 0, tI 9 4, tN 9 2, tN 9 1, tN 9 0, .le (.a 8) 2147483647, .ge (.a 8) (-2147483648), tI 0 2, tN 0 1]) : ArgJ val := lf h [(.c 0), (.c 0), (.c 0), (.c 0), (.c 0), (.c 0), (.c 0), (.c 0), (.c 0), (.c 0), (.c 0), (.c 2), (.c 0)] (by kernel_rfl)

theorem argJ_122 (val : Nat → Int) (h : Holds val [tN 5 5, tN 5 0, .le (.a 4) 15, .ge (.a 4) 0, tI 3 5, tN 3 8, tN 3 0, tI 9 4, tN 9 2, tN 9 1, tN 9 0, .le (.a 8) 2147483647, .ge (.a 8) (-2147483648), tI 0 2, tN 0 1]) : ArgJ val := lf h [(.c 0), (.c 0), (.c 0), (.c 0), (.c 0), (.c 0), (.c 0), (.c 0), (.c 0), (.c 0), (.c 0), (.c 2), (.c 0)] (by kernel_rfl)

theorem argJ_123 (val : Nat → Int) (h : Holds val [.ge (.a 4) 16, .ge (.a 4) 0, tI 3 5, tN 3 8, tN 3 0, tI 9 4, tN 9 2, tN 9 1, tN 9 0, .le (.a 8) 2147483647, .ge (.a 8) (-2147483648), tI 0 2, tN 0 1]) : ArgJ val := lf h [(.c 0), (.c 0), (.c 0), (.c 0), (.c 0), (.c 0), (.c 0), (.c 0), (.c 0), (.c 0), (.c 0), (.c 2), (.c 0)] (by kernel_rfl)

theorem argJ_124 (val : Nat → Int) (h : Holds val [.le (.a 4) (-1), tI 3 5, tN 3 8, tN 3 0, tI 9 4, tN 9 2, tN 9 1, tN 9 0, .le (.a 8) 2147483647, .ge (.a 8) (-2147483648), tI 0 2, tN 0 1]) : ArgJ val := lf h [(.c 0), (.c 0), (.c 0), (.c 0), (.c 0), (.c 0), (.c 0), (.c 0), (.c 0), (.c 0), (.c 0), (.c 2), (.c 0)] (by kernel_rfl)

theorem argJ_125 (val : Nat → Int) (h : Holds val [tN 3 5, tN 3 8, tN 3 0, tI 9 4, tN 9 2, tN 9 1, tN 9 0, .le (.a 8) 2147483647, .ge (.a 8) (-2147483648), tI 0 2, tN 0 1]) : ArgJ val := lf h [(.c 0), (.c 0), (.c 0), (.c 0), (.c 0), (.c 0), (.c 0), (.c 0), (.c 0), (.c 0), (.c 0), (.c 2), (.c 0)] (by kernel_rfl)

theorem argJ_126 (val : Nat → Int) (h : Holds val [tI 5 0, tI 4 0, tI 3 0, tI 9 8, tN 9 4, tN 9 2, tN 9 1, tN 9 0, .le (.a 8) 2147483647, .ge (.a 8) (-2147483648), tI 0 2, tN 0 1]) : ArgJ val := by_eq 6 0 h (fun h => by_eq 7 0 h (fun h => lf h [(.a 0), (.c 0), (.c 0), (.a 3), (.a 4), (.a 5), (.a 6), (.a 7), (.a 8), (.a 9), (.c 0), (.c 0), (.a 9)] (by kernel_rfl))
 (fun h => lf h [(.c 0), (.c 0), (.c 0), (.c 0), (.c 0), (.c 0), (.c 0), (.c 0), (.c 0), (.c 0), (.c 0), (.c 2), (.c 0)] (by kernel_rfl)))
 (fun h => lf h [(.c 0), (.c 0), (.c 0), (.c 0), (.c 0), (.c 0), (.c 0), (.c 0), (.c 0), (.c 0), (.c 0), (.c 2), (.c 0)] (by kernel_rfl))

theorem argJ_127 (val : Nat → Int) (h : Holds val [tI 6 4, .at (.or (.eq (.a 7) (.c 1)) (.or (.eq (.a 7) (.c 2)) (.or (.eq (.a 7) (.c 4)) (.or (.eq (.a 7) (.c 8)) .ff)))) true, .le (.a 6) 15, .ge (.a 6) 0, tI 5 5, tN 5 0, tI 4 0, tI 3 0, tI 9 8, tN 9 4, tN 9 2, tN 9 1, tN 9 0, .le (.a 8) 2147483647, .ge (.a 8) (-2147483648), tI 0 2, tN 0 1]) : ArgJ val := by_eq 7 1 h (fun h => lf h [(.a 0), (.c 0), (.c 0), (.a 5), (.a 6), (.c 0), (.c 0), (.c 0), (.a 8), (.a 9), (.c 0), (.c 0), (.a 9)] (by kernel_rfl))
 (fun h => by_way (.eq (.c 2) (.a 7)) (tI 7 2) (tN 7 2) rfl rfl h (fun h => lf h [(.c 0), (.c 0), (.c 0), (.c 0), (.c 0), (.c 0), (.c 0), (.c 0), (.c 0), (.c 0), (.c 0), (.c 2), (.c 0)] (by kernel_rfl))
 (fun h => by_way (.eq (.c 4) (.a 7)) (tI 7 4) (tN 7 4) rfl rfl h (fun h => lf h [(.c 0), (.c 0), (.c 0), (.c 0), (.c 0), (.c 0), (.c 0), (.c 0), (.c 0), (.c 0), (.c 0), (.c 2), (.c 0)] (by kernel_rfl))
 (fun h => by_way (.eq (.c 8) (.a 7)) (tI 7 8) (tN 7 8) rfl rfl h (fun h => lf h [(.c 0), (.c 0), (.c 0), (.c 0), (.c 0), (.c 0), (.c 0), (.c 0), (.c 0), (.c 0), (.c 0), (.c 2), (.c 0)] (by kernel_rfl))
 (fun h => lf h [(.c 0), (.c 0), (.c 0), (.c 0), (.c 0), (.c 0), (.c 0), (.c 0), (.c 0), (.c 0), (.c 0), (.c 2), (.c 0)] (by kernel_rfl)))))

theorem argJ_128 (val : Nat → Int) (h : Holds val [tN 6 4, .at (.or (.eq (.a 7) (.c 1)) (.or (.eq (.a 7) (.c 2)) (.or (.eq (.a 7) (.c 4)) (.or (.eq (.a 7) (.c 8)) .ff)))) true, .le (.a 6) 15, .ge (.a 6) 0, tI 5 5, tN 5 0, tI 4 0, tI 3 0, tI 9 8, tN 9 4, tN 9 2, tN 9 1, tN 9 0, .le (.a 8) 2147483647, .ge (.a 8) (-2147483648), tI 0 2, tN 0 1]) : ArgJ val := by_eq 7 1 h (fun h => lf h [(.a 0), (.c 0), (.c 0), (.a 5), (.a 6), (.c 0), (.c 0), (.c 0), (.a 8), (.a 9), (.c 0), (.c 0), (.a 9)] (by kernel_rfl))
 (fun h => by_way (.eq (.c 2) (.a 7)) (tI 7 2) (tN 7 2) rfl rfl h (fun h => lf h [(.a 0), (.c 0), (.c 0), (.a 3), (.a 4), (.a 5), (.a 6), (.a 7), (.a 8), (.a 9), (.c 0), (.c 0), (.a 9)] (by kernel_rfl))
 (fun h => by_way (.eq (.c 4) (.a 7)) (tI 7 4) (tN 7 4) rfl rfl h (fun h => lf h [(.a 0), (.c 0), (.c 0), (.a 3), (.a 4), (.a 5), (.a 6), (.a 7), (.a 8), (.a 9), (.c 0), (.c 0), (.a 9)] (by kernel_rfl))
 (fun h => by_way (.eq (.c 8) (.a 7)) (tI 7 8) (tN 7 8) rfl rfl h (fun h => lf h [(.a 0), (.c 0), (.c 0), (.a 3), (.a 4), (.a 5), (.a 6), (.a 7), (.a 8), (.a 9), (.c 0), (.c 0), (.a 9)] (by kernel_rfl))
 (fun h => lf h [(.c 0), (.c 0), (.c 0), (.c 0), (.c 0), (.c 0), (.c 0), (.c 0), (.c 0), (.c 0), (.c 0), (.c 2), (.c 0)] (by kernel_rfl)))))

theorem argJ_129 (val : Nat → Int) (h : Holds val [tI 7 1, .at (.or (.eq (.a 7) (.c 1)) (.or (.eq (.a 7) (.c 2)) (.or (.eq (.a 7) (.c 4)) (.or (.eq (.a 7) (.c 8)) .ff)))) false, .le (.a 6) 15, .ge (.a 6) 0, tI 5 5, tN 5 0, tI 4 0, tI 3 0, tI 9 8, tN 9 4, tN 9 2, tN 9 1, tN 9 0, .le (.a 8) 2147483647, .ge (.a 8) (-2147483648), tI 0 2, tN 0 1]) : ArgJ val := by_eq 6 4 h (fun h => lf h [(.a 0), (.c 0), (.c 0), (.a 5), (.a 6), (.c 0), (.c 0), (.c 0), (.a 8), (.a 9), (.c 0), (.c 0), (.a 9)] (by kernel_rfl))
 (fun h => lf h [(.a 0), (.c 0), (.c 0), (.a 5), (.a 6), (.c 0), (.c 0), (.c 0), (.a 8), (.a 9), (.c 0), (.c 0), (.a 9)] (by kernel_rfl))

theorem argJ_130 (val : Nat → Int) (h : Holds val [tI 7 2, tN 7 1, .at (.or (.eq (.a 7) (.c 1)) (.or (.eq (.a 7) (.c 2)) (.or (.eq (.a 7) (.c 4)) (.or (.eq (.a 7) (.c 8)) .ff)))) false, .le (.a 6) 15, .ge (.a 6) 0, tI 5 5, tN 5 0, tI 4 0, tI 3 0, tI 9 8, tN 9 4, tN 9 2, tN 9 1, tN 9 0, .le (.a 8) 2147483647, .ge (.a 8) (-2147483648), tI 0 2, tN 0 1]) : ArgJ val := by_eq 6 4 h (fun h => lf h [(.c 0), (.c 0), (.c 0), (.c 0), (.c 0), (.c 0), (.c 0), (.c 0), (.c 0), (.c 0), (.c 0), (.c 2), (.c 0)] (by kernel_rfl))
 (fun h => lf h [(.a 0), (.c 0), (.c 0), (.a 3), (.a 4), (.a 5), (.a 6), (.a 7), (.a 8), (.a 9), (.c 0), (.c 0), (.a 9)] (by kernel_rfl))

theorem argJ_131 (val : Nat → Int) (h : Holds val [tN 7 2, tN 7 1, .at (.or (.eq (.a 7) (.c 1)) (.or (.eq (.a 7) (.c 2)) (.or (.eq (.a 7) (.c 4)) (.or (.eq (.a 7) (.c 8)) .ff)))) false, .le (.a 6) 15, .ge (.a 6) 0, tI 5 5, tN 5 0, tI 4 0, tI 3 0, tI 9 8, tN 9 4, tN 9 2, tN 9 1, tN 9 0, .le (.a 8) 2147483647, .ge (.a 8) (-2147483648), tI 0 2, tN 0 1]) : ArgJ val := by_way (.eq (.c 4) (.a 7)) (tI 7 4) (tN 7 4) rfl rfl h (fun h => by_eq 6 4 h (fun h => lf h [(.c 0), (.c 0), (.c 0), (.c 0), (.c 0), (.c 0), (.c 0), (.c 0), (.c 0), (.c 0), (.c 0), (.c 2), (.c 0)] (by kernel_rfl))
 (fun h => lf h [(.a 0), (.c 0), (.c 0), (.a 3), (.a 4), (.a 5), (.a 6), (.a 7), (.a 8), (.a 9), (.c 0), (.c 0), (.a 9)] (by kernel_rfl)))
 (fun h => by_way (.eq (.c 8) (.a 7)) (tI 7 8) (tN 7 8) rfl rfl h (fun h => by_eq 6 4 h (fun h => lf h [(.c 0), (.c 0), (.c 0), (.c 0), (.c 0), (.c 0), (.c 0), (.c 0), (.c 0), (.c 0), (.c 0), (.c 2), (.c 0)] (by kernel_rfl))
 (fun h => lf h [(.a 0), (.c 0), (.c 0), (.a 3), (.a 4), (.a 5), (.a 6), (.a 7), (.a 8), (.a 9), (.c 0), (.c 0), (.a 9)] (by kernel_rfl)))
 (fun h => lf h [(.c 0), (.c 0), (.c 0), (.c 0), (.c 0), (.c 0), (.c 0), (.c 0), (.c 0), (.c 0), (.c 0), (.c 2), (.c 0)] (by kernel_rfl)))

theorem argJ_132 (val : Nat → Int) (h : Holds val [.ge (.a 6) 16, .ge (.a 6) 0, tI 5 5, tN 5 0, tI 4 0, tI 3 0, tI 9 8, tN 9 4, tN 9 2, tN 9 1, tN 9 0, .le (.a 8) 2147483647, .ge (.a 8) (-2147483648), tI 0 2, tN 0 1]) : ArgJ val := lf h [(.c 0), (.c 0), (.c 0), (.c 0), (.c 0), (.c 0), (.c 0), (.c 0), (.c 0), (.c 0), (.c 0), (.c 2), (.c 0)] (by kernel_rfl)

theorem argJ_133 (val : Nat → Int) (h : Holds val [.le (.a 6) (-1), tI 5 5, tN 5 0, tI 4 0, tI 3 0, tI 9 8, tN 9 4, tN 9 2, tN 9 1, tN 9 0, .le (.a 8) 2147483647, .ge (.a 8) (-2147483648), tI 0 2, tN 0 1]) : ArgJ val := lf h [(.c 0), (.c 0), (.c 0), (.c 0), (.c 0), (.c 0), (.c 0), (.c 0), (.c 0), (.c 0), (.c 0), (.c 2), (.c 0)] (by kernel_rfl)

theorem argJ_134 (val : Nat → Int) (h : Holds val [tN 5 5, tN 5 0, tI 4 0, tI 3 0, tI 9 8, tN 9 4, tN 9 2, tN 9 1, tN 9 0, .le (.a 8) 2147483647, .ge (.a 8) (-2147483648), tI 0 2, tN 0 1]) : ArgJ val := lf h [(.c 0), (.c 0), (.c 0), (.c 0), (.c 0), (.c 0), (.c 0), (.c 0), (.c 0), (.c 0), (.c 0), (.c 2), (.c 0)] (by kernel_rfl)

theorem argJ_135 (val : Nat → Int) (h : Holds val [tN 4 0, tI 3 0, tI 9 8, tN 9 4, tN 9 2, tN 9 1, tN 9 0, .le (.a 8) 2147483647, .ge (.a 8) (-2147483648), tI 0 2, tN 0 1]) : ArgJ val := lf h [(.c 0), (.c 0), (.c 0), (.c 0), (.c 0), (.c 0), (.c 0), (.c 0), (.c 0), (.c 0), (.c 0), (.c 2), (.c 0)] (by kernel_rfl)

theorem argJ_136 (val : Nat → Int) (h : Holds val [tI 5 0, tI 4 0, tI 3 8, tN 3 0, tI 9 8, tN 9 4, tN 9 2, tN 9 1, tN 9 0, .le (.a 8) 2147483647, .ge (.a 8) (-2147483648), tI 0 2, tN 0 1]) : ArgJ val := by_eq 6 0 h (fun h => by_eq 7 0 h (fun h => lf h [(.a 0), (.c 0), (.c 0), (.a 3), (.a 4), (.a 5), (.a 6), (.a 7), (.a 8), (.a 9), (.c 0), (.c 0), (.a 9)] (by kernel_rfl))
 (fun h => lf h [(.c 0), (.c 0), (.c 0), (.c 0), (.c 0), (.c 0), (.c 0), (.c 0), (.c 0), (.c 0), (.c 0), (.c 2), (.c 0)] (by kernel_rfl)))
 (fun h => lf h [(.c 0), (.c 0), (.c 0), (.c 0), (.c 0), (.c 0), (.c 0), (.c 0), (.c 0), (.c 0), (.c 0), (.c 2), (.c 0)] (by kernel_rfl))

theorem argJ_137 (val : Nat → Int) (h : Holds val [.at (.or (.eq (.a 7) (.c 1)) (.or (.eq (.a 7) (.c 2)) (.or (.eq (.a 7) (.c 4)) (.or (.eq (.a 7) (.c 8)) .ff)))) true, .le (.a 6) 15, .ge (.a 6) 0, tI 5 5, tN 5 0, tI 4 0, tI 3 8, tN 3 0, tI 9 8, tN 9 4, tN 9 2, tN 9 1, tN 9 0, .le (.a 8) 2147483647, .ge (.a 8) (-2147483648), tI 0 2, tN 0 1]) : ArgJ val := by_way (.eq (.c 1) (.a 7)) (tI 7 1) (tN 7 1) rfl rfl h (fun h => lf h [(.c 0), (.c 0), (.c 0), (.c 0), (.c 0), (.c 0), (.c 0), (.c 0), (.c 0), (.c 0), (.c 0), (.c 2), (.c 0)] (by kernel_rfl))
 (fun h => by_way (.eq (.c 2) (.a 7)) (tI 7 2) (tN 7 2) rfl rfl h (fun h => lf h [(.c 0), (.c 0), (.c 0), (.c 0), (.c 0), (.c 0), (.c 0), (.c 0), (.c 0), (.c 0), (.c 0), (.c 2), (.c 0)] (by kernel_rfl))
 (fun h => by_way (.eq (.c 4) (.a 7)) (tI 7 4) (tN 7 4) rfl rfl h (fun h => lf h [(.c 0), (.c 0), (.c 0), (.c 0), (.c 0), (.c 0), (.c 0), (.c 0), (.c 0), (.c 0), (.c 0), (.c 2), (.c 0)] (by kernel_rfl))
 (fun h => by_way (.eq (.c 8) (.a 7)) (tI 7 8) (tN 7 8) rfl rfl h (fun h => lf h [(.c 0), (.c 0), (.c 0), (.c 0), (.c 0), (.c 0), (.c 0), (.c 0), (.c 0), (.c 0), (.c 0), (.c 2), (.c 0)] (by kernel_rfl))
 (fun h => lf h [(.c 0), (.c 0), (.c 0), (.c 0), (.c 0), (.c 0), (.c 0), (.c 0), (.c 0), (.c 0), (.c 0), (.c 2), (.c 0)] (by kernel_rfl)))))

theorem argJ_138 (val : Nat → Int) (h : Holds val [.at (.or (.eq (.a 7) (.c 1)) (.or (.eq (.a 7) (.c 2)) (.or (.eq (.a 7) (.c 4)) (.or (.eq (.a 7) (.c 8)) .ff)))) false, .le (.a 6) 15, .ge (.a 6) 0, tI 5 5, tN 5 0, tI 4 0, tI 3 8, tN 3 0, tI 9 8, tN 9 4, tN 9 2, tN 9 1, tN 9 0, .le (.a 8) 2147483647, .ge (.a 8) (-2147483648), tI 0 2, tN 0 1]) : ArgJ val := by_way (.eq (.c 1) (.a 7)) (tI 7 1) (tN 7 1) rfl rfl h (fun h => lf h [(.c 0), (.c 0), (.c 0), (.c 0), (.c 0), (.c 0), (.c 0), (.c 0), (.c 0), (.c 0), (.c 0), (.c 2), (.c 0)] (by kernel_rfl))
 (fun h => by_way (.eq (.c 2) (.a 7)) (tI 7 2) (tN 7 2) rfl rfl h (fun h => lf h [(.c 0), (.c 0), (.c 0), (.c 0), (.c 0), (.c 0), (.c 0), (.c 0), (.c 0), (.c 0), (.c 0), (.c 2), (.c 0)] (by kernel_rfl))
 (fun h => by_way (.eq (.c 4) (.a 7)) (tI 7 4) (tN 7 4) rfl rfl h (fun h => lf h [(.c 0), (.c 0), (.c 0), (.c 0), (.c 0), (.c 0), (.c 0), (.c 0), (.c 0), (.c 0), (.c 0), (.c 2), (.c 0)] (by kernel_rfl))
 (fun h => by_way (.eq (.c 8) (.a 7)) (tI 7 8) (tN 7 8) rfl rfl h (fun h => lf h [(.c 0), (.c 0), (.c 0), (.c 0), (.c 0), (.c 0), (.c 0), (.c 0), (.c 0), (.c 0), (.c 0), (.c 2), (.c 0)] (by kernel_rfl))
 (fun h => lf h [(.c 0), (.c 0), (.c 0), (.c 0), (.c 0), (.c 0), (.c 0), (.c 0), (.c 0), (.c 0), (.c 0), (.c 2), (.c 0)] (by kernel_rfl)))))

theorem argJ_139 (val : Nat → Int) (h : Holds val [.ge (.a 6) 16, .ge (.a 6) 0, tI 5 5, tN 5 0, tI 4 0, tI 3 8, tN 3 0, tI 9 8, tN 9 4, tN 9 2, tN 9 1, tN 9 0, .le (.a 8) 2147483647, .ge (.a 8) (-2147483648), tI 0 2, tN 0 1]) : ArgJ val := lf h [(.c 0), (.c 0), (.c 0), (.c 0), (.c 0), (.c 0), (.c 0), (.c 0), (.c 0), (.c 0), (.c 0), (.c 2), (.c 0)] (by kernel_rfl)

theorem argJ_140 (val : Nat → Int) (h : Holds val [.le (.a 6) (-1), tI 5 5, tN 5 0, tI 4 0, tI 3 8, tN 3 0, tI 9 8, tN 9 4, tN 9 2, tN 9 1, tN 9 0, .le (.a 8) 2147483647, .ge (.a 8) (-2147483648), tI 0 2, tN 0 1]) : ArgJ val := lf h [(.c 0), (.c 0), (.c 0), (.c 0), (.c 0), (.c 0), (.c 0), (.c 0), (.c 0), (.c 0), (.c 0), (.c 2), (.c 0)] (by kernel_rfl)

theorem argJ_141 (val : Nat → Int) (h : Holds val [tN 5 5, tN 5 0, tI 4 0, tI 3 8, tN 3 0, tI 9 8, tN 9 4, tN 9 2, tN 9 1, tN 9 0, .le (.a 8) 2147483647, .ge (.a 8) (-2147483648), tI 0 2, tN 0 1]) : ArgJ val := lf h [(.c 0), (.c 0), (.c 0), (.c 0), (.c 0), (.c 0), (.c 0), (.c 0), (.c 0), (.c 0), (.c 0), (.c 2), (.c 0)] (by kernel_rfl)

theorem argJ_142 (val : Nat → Int) (h : Holds val [tN 4 0, tI 3 8, tN 3 0, tI 9 8, tN 9 4, tN 9 2, tN 9 1, tN 9 0, .le (.a 8) 2147483647, .ge (.a 8) (-2147483648), tI 0 2, tN 0 1]) : ArgJ val := lf h [(.c 0), (.c 0), (.c 0), (.c 0), (.c 0), (.c 0), (.c 0), (.c 0), (.c 0), (.c 0), (.c 0), (.c 2), (.c 0)] (by kernel_rfl)

theorem argJ_143 (val : Nat → Int) (h : Holds val [tI 5 0, .le (.a 4) 15, .ge (.a 4) 0, tI 3 5, tN 3 8, tN 3 0, tI 9 8, tN 9 4, tN 9 2, tN 9 1, tN 9 0, .le (.a 8) 2147483647, .ge (.a 8) (-2147483648), tI 0 2, tN 0 1]) : ArgJ val := by_eq 6 0 h (fun h => by_eq 7 0 h (fun h => lf h [(.a 0), (.c 0), (.c 0), (.a 3), (.a 4), (.a 5), (.a 6), (.a 7), (.a 8), (.a 9), (.c 0), (.c 0), (.a 9)] (by kernel_rfl))
 (fun h => lf h [(.c 0), (.c 0), (.c 0), (.c 0), (.c 0), (.c 0), (.c 0), (.c 0), (.c 0), (.c 0), (.c 0), (.c 2), (.c 0)] (by kernel_rfl)))
 (fun h => lf h [(.c 0), (.c 0), (.c 0), (.c 0), (.c 0), (.c 0), (.c 0), (.c 0), (.c 0), (.c 0), (.c 0), (.c 2), (.c 0)] (by kernel_rfl))

end Go.Proofs.Ytndiilfjeconbaa.Tab
