/-
  Ways through the code, part 2.
-/
import Derived.Test.YtndiilfjeconbaaArgJH
namespace Go.Proofs.Ytndiilfjeconbaa.Tab
open Go.Sim
set_option maxRecDepth 100000
set_option linter.unusedSimpArgs false
set_option maxHeartbeats 4000000

theorem argJ_72 (val : Nat → Int) (h : Holds val [tI 7 2, tN 7 1, .at (.or (.eq (.a 7) (.c 1)) (.or (.eq (.a 7) (.c 2)) (.or (.eq (.a 7) (.c 4)) (.or (.eq (.a 7) (.c 8)) .ff)))) false, .le (.a 6) 15, .ge (.a 6) 0, tI 5 5, tN 5 0, tI 4 0, tI 3 0, tI 9 2, tN 9 1, tN 9 0, .le (.a 8) 2147483647, .ge (.a 8) (-2147483648), tI 0 2, tN 0 1]) : ArgJ val := by_eq 6 4 h (fun h => lf h [(.c 0), (.c 0), (.c 0), (.c 0), (.c 0), (.c 0), (.c 0), (.c 0), (.c 0), (.c 0), (.c 0), (.c 2), (.c 0)] (by kernel_rfl))
 (fun h => lf h [(.a 0), (.c 0), (.c 0), (.a 3), (.a 4), (.a 5), (.a 6), (.a 7), (.a 8), (.a 9), (.c 0), (.c 0), (.a 9)] (by kernel_rfl))

theorem argJ_73 (val : Nat → Int) (h : Holds val [tN 7 2, tN 7 1, .at (.or (.eq (.a 7) (.c 1)) (.or (.eq (.a 7) (.c 2)) (.or (.eq (.a 7) (.c 4)) (.or (.eq (.a 7) (.c 8)) .ff)))) false, .le (.a 6) 15, .ge (.a 6) 0, tI 5 5, tN 5 0, tI 4 0, tI 3 0, tI 9 2, tN 9 1, tN 9 0, .le (.a 8) 2147483647, .ge (.a 8) (-2147483648), tI 0 2, tN 0 1]) : ArgJ val := by_way (.eq (.c 4) (.a 7)) (tI 7 4) (tN 7 4) rfl rfl h (fun h => by_eq 6 4 h (fun h => lf h [(.c 0), (.c 0), (.c 0), (.c 0), (.c 0), (.c 0), (.c 0), (.c 0), (.c 0), (.c 0), (.c 0), (.c 2), (.c 0)] (by kernel_rfl))
 (fun h => lf h [(.a 0), (.c 0), (.c 0), (.a 3), (.a 4), (.a 5), (.a 6), (.a 7), (.a 8), (.a 9), (.c 0), (.c 0), (.a 9)] (by kernel_rfl)))
 (fun h => by_way (.eq (.c 8) (.a 7)) (tI 7 8) (tN 7 8) rfl rfl h (fun h => by_eq 6 4 h (fun h => lf h [(.c 0), (.c 0), (.c 0), (.c 0), (.c 0), (.c 0), (.c 0), (.c 0), (.c 0), (.c 0), (.c 0), (.c 2), (.c 0)] (by kernel_rfl))
 (fun h => lf h [(.a 0), (.c 0), (.c 0), (.a 3), (.a 4), (.a 5), (.a 6), (.a 7), (.a 8), (.a 9), (.c 0), (.c 0), (.a 9)] (by kernel_rfl)))
 (fun h => lf h [(.c 0), (.c 0), (.c 0), (.c 0), (.c 0), (.c 0), (.c 0), (.c 0), (.c 0), (.c 0), (.c 0), (.c 2), (.c 0)] (by kernel_rfl)))

theorem argJ_74 (val : Nat → Int) (h : Holds val [.ge (.a 6) 16, .ge (.a 6) 0, tI 5 5, tN 5 0, tI 4 0, tI 3 0, tI 9 2, tN 9 1, tN 9 0, .le (.a 8) 2147483647, .ge (.a 8) (-2147483648), tI 0 2, tN 0 1]) : ArgJ val := lf h [(.c 0), (.c 0), (.c 0), (.c 0), (.c 0), (.c 0), (.c 0), (.c 0), (.c 0), (.c 0), (.c 0), (.c 2), (.c 0)] (by kernel_rfl)

theorem argJ_75 (val : Nat → Int) (h : Holds val [.le (.a 6) (-1), tI 5 5, tN 5 0, tI 4 0, tI 3 0, tI 9 2, tN 9 1, tN 9 0, .le (.a 8) 2147483647, .ge (.a 8) (-2147483648), tI 0 2, tN 0 1]) : ArgJ val := lf h [(.c 0), (.c 0), (.c 0), (.c 0), (.c 0), (.c 0), (.c 0), (.c 0), (.c 0), (.c 0), (.c 0), (.c 2), (.c 0)] (by kernel_rfl)

theorem argJ_76 (val : Nat → Int) (h : Holds val [tN 5 5, tN 5 0, tI 4 0, tI 3 0, tI 9 2, tN 9 1, tN 9 0, .le (.a 8) 2147483647, .ge (.a 8) (-2147483648), tI 0 2, tN 0 1]) : ArgJ val := lf h [(.c 0), (.c 0), (.c 0), (.c 0), (.c 0), (.c 0), (.c 0), (.c 0), (.c 0), (.c 0), (.c 0), (.c 2), (.c 0)] (by kernel_rfl)

theorem argJ_77 (val : Nat → Int) (h : Holds val [tN 4 0, tI 3 0, tI 9 2, tN 9 1, tN 9 0, .le (.a 8) 2147483647, .ge (.a 8) (-2147483648), tI 0 2, tN 0 1]) : ArgJ val := lf h [(.c 0), (.c 0), (.c 0), (.c 0), (.c 0), (.c 0), (.c 0), (.c 0), (.c 0), (.c 0), (.c 0), (.c 2), (.c 0)] (by kernel_rfl)

theorem argJ_78 (val : Nat → Int) (h : Holds val [tI 5 0, tI 4 0, tI 3 8, tN 3 0, tI 9 2, tN 9 1, tN 9 0, .le (.a 8) 2147483647, .ge (.a 8) (-2147483648), tI 0 2, tN 0 1]) : ArgJ val := by_eq 6 0 h (fun h => by_eq 7 0 h (fun h => lf h [(.a 0), (.c 0), (.c 0), (.a 3), (.a 4), (.a 5), (.a 6), (.a 7), (.a 8), (.a 9), (.c 0), (.c 0), (.a 9)] (by kernel_rfl))
 (fun h => lf h [(.c 0), (.c 0), (.c 0), (.c 0), (.c 0), (.c 0), (.c 0), (.c 0), (.c 0), (.c 0), (.c 0), (.c 2), (.c 0)] (by kernel_rfl)))
 (fun h => lf h [(.c 0), (.c 0), (.c 0), (.c 0), (.c 0), (.c 0), (.c 0), (.c 0), (.c 0), (.c 0), (.c 0), (.c 2), (.c 0)] (by kernel_rfl))

theorem argJ_79 (val : Nat → Int) (h : Holds val [.at (.or (.eq (.a 7) (.c 1)) (.or (.eq (.a 7) (.c 2)) (.or (.eq (.a 7) (.c 4)) (.or (.eq (.a 7) (.c 8)) .ff)))) true, .le (.a 6) 15, .ge (.a 6) 0, tI 5 5, tN 5 0, tI 4 0, tI 3 8, tN 3 0, tI 9 2, tN 9 1, tN 9 0, .le (.a 8) 2147483647, .ge (.a 8) (-2147483648), tI 0 2, tN 0 1]) : ArgJ val := by_way (.eq (.c 1) (.a 7)) (tI 7 1) (tN 7 1) rfl rfl h (fun h => lf h [(.c 0), (.c 0), (.c 0), (.c 0), (.c 0), (.c 0), (.c 0), (.c 0), (.c 0), (.c 0), (.c 0), (.c 2), (.c 0)] (by kernel_rfl))
 (fun h => by_way (.eq (.c 2) (.a 7)) (tI 7 2) (tN 7 2) rfl rfl h (fun h => lf h [(.c 0), (.c 0), (.c 0), (.c 0), (.c 0), (.c 0), (.c 0), (.c 0), (.c 0), (.c 0), (.c 0), (.c 2), (.c 0)] (by kernel_rfl))
 (fun h => by_way (.eq (.c 4) (.a 7)) (tI 7 4) (tN 7 4) rfl rfl h (fun h => lf h [(.c 0), (.c 0), (.c 0), (.c 0), (.c 0), (.c 0), (.c 0), (.c 0), (.c 0), (.c 0), (.c 0), (.c 2), (.c 0)] (by kernel_rfl))
 (fun h => by_way (.eq (.c 8) (.a 7)) (tI 7 8) (tN 7 8) rfl rfl h (fun h => lf h [(.c 0), (.c 0), (.c 0), (.c 0), (.c 0), (.c 0), (.c 0), (.c 0), (.c 0), (.c 0), (.c 0), (.c 2), (.c 0)] (by kernel_rfl))
 (fun h => lf h [(.c 0), (.c 0), (.c 0), (.c 0), (.c 0), (.c 0), (.c 0), (.c 0), (.c 0), (.c 0), (.c 0), (.c 2), (.c 0)] (by kernel_rfl)))))

theorem argJ_80 (val : Nat → Int) (h : Holds val [.at (.or (.eq (.a 7) (.c 1)) (.or (.eq (.a 7) (.c 2)) (.or (.eq (.a 7) (.c 4)) (.or (.eq (.a 7) (.c 8)) .ff)))) false, .le (.a 6) 15, .ge (.a 6) 0, tI 5 5, tN 5 0, tI 4 0, tI 3 8, tN 3 0, tI 9 2, tN 9 1, tN 9 0, .le (.a 8) 2147483647, .ge (.a 8) (-2147483648), tI 0 2, tN 0 1]) : ArgJ val := by_way (.eq (.c 1) (.a 7)) (tI 7 1) (tN 7 1) rfl rfl h (fun h => lf h [(.c 0), (.c 0), (.c 0), (.c 0), (.c 0), (.c 0), (.c 0), (.c 0), (.c 0), (.c 0), (.c 0), (.c 2), (.c 0)] (by kernel_rfl))
 (fun h => by_way (.eq (.c 2) (.a 7)) (tI 7 2) (tN 7 2) rfl rfl h (fun h => lf h [(.c 0), (.c 0), (.c 0), (.c 0), (.c 0), (.c 0), (.c 0), (.c 0), (.c 0), (.c 0), (.c 0), (.c 2), (.c 0)] (by kernel_rfl))
 (fun h => by_way (.eq (.c 4) (.a 7)) (tI 7 4) (tN 7 4) rfl rfl h (fun h => lf h [(.c 0), (.c 0), (.c 0), (.c 0), (.c 0), (.c 0), (.c 0), (.c 0), (.c 0), (.c 0), (.c 0), (.c 2), (.c 0)] (by kernel_rfl))
 (fun h => by_way (.eq (.c 8) (.a 7)) (tI 7 8) (tN 7 8) rfl rfl h (fun h => lf h [(.c 0), (.c 0), (.c 0), (.c 0), (.c 0), (.c 0), (.c 0), (.c 0), (.c 0), (.c 0), (.c 0), (.c 2), (.c 0)] (by kernel_rfl))
 (fun h => lf h [(.c 0), (.c 0), (.c 0), (.c 0), (.c 0), (.c 0), (.c 0), (.c 0), (.c 0), (.c 0), (.c 0), (.c 2), (.c 0)] (by kernel_rfl)))))

theorem argJ_81 (val : Nat → Int) (h : Holds val [.ge (.a 6) 16, .ge (.a 6) 0, tI 5 5, tN 5 0, tI 4 0, tI 3 8, tN 3 0, tI 9 2, tN 9 1, tN 9 0, .le (.a 8) 2147483647, .ge (.a 8) (-2147483648), tI 0 2, tN 0 1]) : ArgJ val := lf h [(.c 0), (.c 0), (.c 0), (.c 0), (.c 0), (.c 0), (.c 0), (.c 0), (.c 0), (.c 0), (.c 0), (.c 2), (.c 0)] (by kernel_rfl)

theorem argJ_82 (val : Nat → Int) (h : Holds val [.le (.a 6) (-1), tI 5 5, tN 5 0, tI 4 0, tI 3 8, tN 3 0, tI 9 2, tN 9 1, tN 9 0, .le (.a 8) 2147483647, .ge (.a 8) (-2147483648), tI 0 2, tN 0 1]) : ArgJ val := lf h [(.c 0), (.c 0), (.c 0), (.c 0), (.c 0), (.c 0), (.c 0), (.c 0), (.c 0), (.c 0), (.c 0), (.c 2), (.c 0)] (by kernel_rfl)

theorem argJ_83 (val : Nat → Int) (h : Holds val [tN 5 5, tN 5 0, tI 4 0, tI 3 8, tN 3 0, tI 9 2, tN 9 1, tN 9 0, .le (.a 8) 2147483647, .ge (.a 8) (-2147483648), tI 0 2, tN 0 1]) : ArgJ val := lf h [(.c 0), (.c 0), (.c 0), (.c 0), (.c 0), (.c 0), (.c 0), (.c 0), (.c 0), (.c 0), (.c 0), (.c 2), (.c 0)] (by kernel_rfl)

theorem argJ_84 (val : Nat → Int) (h : Holds val [tN 4 0, tI 3 8, tN 3 0, tI 9 2, tN 9 1, tN 9 0, .le (.a 8) 2147483647, .ge (.a 8) (-2147483648), tI 0 2, tN 0 1]) : ArgJ val := lf h [(.c 0), (.c 0), (.c 0), (.c 0), (.c 0), (.c 0), (.c 0), (.c 0), (.c 0), (.c 0), (.c 0), (.c 2), (.c 0)] (by kernel_rfl)

theorem argJ_85 (val : Nat → Int) (h : Holds val [tI 5 0, .le (.a 4) 15, .ge (.a 4) 0, tI 3 5, tN 3 8, tN 3 0, tI 9 2, tN 9 1, tN 9 0, .le (.a 8) 2147483647, .ge (.a 8) (-2147483648), tI 0 2, tN 0 1]) : ArgJ val := by_eq 6 0 h (fun h => by_eq 7 0 h (fun h => lf h [(.a 0), (.c 0), (.c 0), (.a 3), (.a 4), (.a 5), (.a 6), (.a 7), (.a 8), (.a 9), (.c 0), (.c 0), (.a 9)] (by kernel_rfl))
 (fun h => lf h [(.c 0), (.c 0), (.c 0), (.c 0), (.c 0), (.c 0), (.c 0), (.c 0), (.c 0), (.c 0), (.c 0), (.c 2), (.c 0)] (by kernel_rfl)))
 (fun h => lf h [(.c 0), (.c 0), (.c 0), (.c 0), (.c 0), (.c 0), (.c 0), (.c 0), (.c 0), (.c 0), (.c 0), (.c 2), (.c 0)] (by kernel_rfl))

theorem argJ_86 (val : Nat → Int) (h : Holds val [tI 6 4, .at (.or (.eq (.a 7) (.c 1)) (.or (.eq (.a 7) (.c 2)) (.or (.eq (.a 7) (.c 4)) (.or (.eq (.a 7) (.c 8)) .ff)))) true, .le (.a 6) 15, .ge (.a 6) 0, tI 5 5, tN 5 0, .le (.a 4) 15, .ge (.a 4) 0, tI 3 5, tN 3 8, tN 3 0, tI 9 2, tN 9 1, tN 9 0, .le (.a 8) 2147483647, .ge (.a 8) (-2147483648), tI 0 2, tN 0 1]) : ArgJ val := by_eq 7 1 h (fun h => by_eq 4 4 h (fun h => lf h [(.c 0), (.c 0), (.c 0), (.c 0), (.c 0), (.c 0), (.c 0), (.c 0), (.c 0), (.c 0), (.c 0), (.c 2), (.c 0)] (by kernel_rfl))
 (fun h => lf h [(.a 0), (.c 0), (.c 0), (.a 5), (.a 6), (.a 3), (.a 4), (.a 7), (.a 8), (.a 9), (.c 0), (.c 0), (.a 9)] (by kernel_rfl)))
 (fun h => by_way (.eq (.c 2) (.a 7)) (tI 7 2) (tN 7 2) rfl rfl h (fun h => lf h [(.c 0), (.c 0), (.c 0), (.c 0), (.c 0), (.c 0), (.c 0), (.c 0), (.c 0), (.c 0), (.c 0), (.c 2), (.c 0)] (by kernel_rfl))
 (fun h => by_way (.eq (.c 4) (.a 7)) (tI 7 4) (tN 7 4) rfl rfl h (fun h => lf h [(.c 0), (.c 0), (.c 0), (.c 0), (.c 0), (.c 0), (.c 0), (.c 0), (.c 0), (.c 0), (.c 0), (.c 2), (.c 0)] (by kernel_rfl))
 (fun h => by_way (.eq (.c 8) (.a 7)) (tI 7 8) (tN 7 8) rfl rfl h (fun h => lf h [(.c 0), (.c 0), (.c 0), (.c 0), (.c 0), (.c 0), (.c 0), (.c 0), (.c 0), (.c 0), (.c 0), (.c 2), (.c 0)] (by kernel_rfl))
 (fun h => lf h [(.c 0), (.c 0), (.c 0), (.c 0), (.c 0), (.c 0), (.c 0), (.c 0), (.c 0), (.c 0), (.c 0), (.c 2), (.c 0)] (by kernel_rfl)))))

theorem argJ_87 (val : Nat → Int) (h : Holds val [tN 6 4, .at (.or (.eq (.a 7) (.c 1)) (.or (.eq (.a 7) (.c 2)) (.or (.eq (.a 7) (.c 4)) (.or (.eq (.a 7) (.c 8)) .ff)))) true, .le (.a 6) 15, .ge (.a 6) 0, tI 5 5, tN 5 0, .le (.a 4) 15, .ge (.a 4) 0, tI 3 5, tN 3 8, tN 3 0, tI 9 2, tN 9 1, tN 9 0, .le (.a 8) 2147483647, .ge (.a 8) (-2147483648), tI 0 2, tN 0 1]) : ArgJ val := by_eq 7 1 h (fun h => lf h [(.a 0), (.c 0), (.c 0), (.a 3), (.a 4), (.a 5), (.a 6), (.a 7), (.a 8), (.a 9), (.c 0), (.c 0), (.a 9)] (by kernel_rfl))
 (fun h => by_way (.eq (.c 2) (.a 7)) (tI 7 2) (tN 7 2) rfl rfl h (fun h => lf h [(.a 0), (.c 0), (.c 0), (.a 3), (.a 4), (.a 5), (.a 6), (.a 7), (.a 8), (.a 9), (.c 0), (.c 0), (.a 9)] (by kernel_rfl))
 (fun h => by_way (.eq (.c 4) (.a 7)) (tI 7 4) (tN 7 4) rfl rfl h (fun h => lf h [(.a 0), (.c 0), (.c 0), (.a 3), (.a 4), (.a 5), (.a 6), (.a 7), (.a 8), (.a 9), (.c 0), (.c 0), (.a 9)] (by kernel_rfl))
 (fun h => by_way (.eq (.c 8) (.a 7)) (tI 7 8) (tN 7 8) rfl rfl h (fun h => lf h [(.a 0), (.c 0), (.c 0), (.a 3), (.a 4), (.a 5), (.a 6), (.a 7), (.a 8), (.a 9), (.c 0), (.c 0), (.a 9)] (by kernel_rfl))
 (fun h => lf h [(.c 0), (.c 0), (.c 0), (.c 0), (.c 0), (.c 0), (.c 0), (.c 0), (.c 0), (.c 0), (.c 0), (.c 2), (.c 0)] (by kernel_rfl)))))

theorem argJ_88 (val : Nat → Int) (h : Holds val [tI 7 1, .at (.or (.eq (.a 7) (.c 1)) (.or (.eq (.a 7) (.c 2)) (.or (.eq (.a 7) (.c 4)) (.or (.eq (.a 7) (.c 8)) .ff)))) false, .le (.a 6) 15, .ge (.a 6) 0, tI 5 5, tN 5 0, .le (.a 4) 15, .ge (.a 4) 0, tI 3 5, tN 3 8, tN 3 0, tI 9 2, tN 9 1, tN 9 0, .le (.a 8) 2147483647, .ge (.a 8) (-2147483648), tI 0 2, tN 0 1]) : ArgJ val := by_eq 6 4 h (fun h => by_eq 4 4 h (fun h => lf h [(.c 0), (.c 0), (.c 0), (.c 0), (.c 0), (.c 0), (.c 0), (.c 0), (.c 0), (.c 0), (.c 0), (.c 2), (.c 0)] (by kernel_rfl))
 (fun h => lf h [(.a 0), (.c 0), (.c 0), (.a 5), (.a 6), (.a 3), (.a 4), (.a 7), (.a 8), (.a 9), (.c 0), (.c 0), (.a 9)] (by kernel_rfl)))
 (fun h => lf h [(.a 0), (.c 0), (.c 0), (.a 3), (.a 4), (.a 5), (.a 6), (.a 7), (.a 8), (.a 9), (.c 0), (.c 0), (.a 9)] (by kernel_rfl))

theorem argJ_89 (val : Nat → Int) (h : Holds val [tI 7 2, tN 7 1, .at (.or (.eq (.a 7) (.c 1)) (.or (.eq (.a 7) (.c 2)) (.or (.eq (.a 7) (.c 4)) (.or (.eq (.a 7) (.c 8)) .ff)))) false, .le (.a 6) 15, .ge (.a 6) 0, tI 5 5, tN 5 0, .le (.a 4) 15, .ge (.a 4) 0, tI 3 5, tN 3 8, tN 3 0, tI 9 2, tN 9 1, tN 9 0, .le (.a 8) 2147483647, .ge (.a 8) (-2147483648), tI 0 2, tN 0 1]) : ArgJ val := by_eq 6 4 h (fun h => lf h [(.c 0), (.c 0), (.c 0), (.c 0), (.c 0), (.c 0), (.c 0), (.c 0), (.c 0), (.c 0), (.c 0), (.c 2), (.c 0)] (by kernel_rfl))
 (fun h => lf h [(.a 0), (.c 0), (.c 0), (.a 3), (.a 4), (.a 5), (.a 6), (.a 7), (.a 8), (.a 9), (.c 0), (.c 0), (.a 9)] (by kernel_rfl))

theorem argJ_90 (val : Nat → Int) (h : Holds val [tN 7 2, tN 7 1, .at (.or (.eq (.a 7) (.c 1)) (.or (.eq (.a 7) (.c 2)) (.or (.eq (.a 7) (.c 4)) (.or (.eq (.a 7) (.c 8)) .ff)))) false, .le (.a 6) 15, .ge (.a 6) 0, tI 5 5, tN 5 0, .le (.a 4) 15, .ge (.a 4) 0, tI 3 5, tN 3 8, tN 3 0, tI 9 2, tN 9 1, tN 9 0, .le (.a 8) 2147483647, .ge (.a 8) (-2147483648), tI 0 2, tN 0 1]) : ArgJ val := by_way (.eq (.c 4) (.a 7)) (tI 7 4) (tN 7 4) rfl rfl h (fun h => by_eq 6 4 h (fun h => lf h [(.c 0), (.c 0), (.c 0), (.c 0), (.c 0), (.c 0), (.c 0), (.c 0), (.c 0), (.c 0), (.c 0), (.c 2), (.c 0)] (by kernel_rfl))
 (fun h => lf h [(.a 0), (.c 0), (.c 0), (.a 3), (.a 4), (.a 5), (.a 6), (.a 7), (.a 8), (.a 9), (.c 0), (.c 0), (.a 9)] (by kernel_rfl)))
 (fun h => by_way (.eq (.c 8) (.a 7)) (tI 7 8) (tN 7 8) rfl rfl h (fun h => by_eq 6 4 h (fun h => lf h [(.c 0), (.c 0), (.c 0), (.c 0), (.c 0), (.c 0), (.c 0), (.c 0), (.c 0), (.c 0), (.c 0), (.c 2), (.c 0)] (by kernel_rfl))
 (fun h => lf h [(.a 0), (.c 0), (.c 0), (.a 3), (.a 4), (.a 5), (.a 6), (.a 7), (.a 8), (.a 9), (.c 0), (.c 0), (.a 9)] (by kernel_rfl)))
 (fun h => lf h [(.c 0), (.c 0), (.c 0), (.c 0), (.c 0), (.c 0), (.c 0), (.c 0), (.c 0), (.c 0), (.c 0), (.c 2), (.c 0)] (by kernel_rfl)))

theorem argJ_91 (val : Nat → Int) (h : Holds val [.ge (.a 6) 16, .ge (.a 6) 0, tI 5 5, tN 5 0, .le (.a 4) 15, .ge (.a 4) 0, tI 3 5, tN 3 8, tN 3 0, tI 9 2, tN 9 1, tN 9 0, .le (.a 8) 2147483647, .ge (.a 8) (-2147483648), tI 0 2, tN 0 1]) : ArgJ val := lf h [(.c 0), (.c 0), (.c 0), (.c 0), (.c 0), (.c 0), (.c 0), (.c 0), (.c 0), (.c 0), (.c 0), (.c 2), (.c 0)] (by kernel_rfl)

theorem argJ_92 (val : Nat → Int) (h : Holds val [.le (.a 6) (-1), tI 5 5, tN 5 0, .le (.a 4) 15, .ge (.a 4) 0, tI 3 5, tN 3 8, tN 3 0, tI 9 2, tN 9 1, tN 9 0, .le (.a 8) 2147483647, .ge (.a 8) (-2147483648), tI 0 2, tN 0 1]) : ArgJ val := lf h [(.c 0), (.c 0), (.c 0), (.c 0), (.c 0), (.c 0), (.c 0), (.c 0), (.c 0), (.c 0), (.c 0), (.c 2), (.c 0)] (by kernel_rfl)

theorem argJ_93 (val : Nat → Int) (h : Holds val [tN 5 5, tN 5 0, .le (.a 4) 15, .ge (.a 4) 0, tI 3 5, tN 3 8, tN 3 0, tI 9 2, tN 9 1, tN 9 0, .le (.a 8) 2147483647, .ge (.a 8) (-2147483648), tI 0 2, tN 0 1]) : ArgJ val := lf h [(.c 0), (.c 0), (.c 0), (.c 0), (.c 0), (.c 0), (.c 0), (.c 0), (.c 0), (.c 0), (.c 0), (.c 2), (.c 0)] (by kernel_rfl)

theorem argJ_94 (val : Nat → Int) (h : Holds val [.ge (.a 4) 16, .ge (.a 4) 0, tI 3 5, tN 3 8, tN 3 0, tI 9 2, tN 9 1, tN 9 0, .le (.a 8) 2147483647, .ge (.a 8) (-2147483648), tI 0 2, tN 0 1]) : ArgJ val := lf h [(.c 0), (.c 0), (.c 0), (.c 0), (.c 0), (.c 0), (.c 0), (.c 0), (.c 0), (.c 0), (.c 0), (.c 2), (.c 0)] (by kernel_rfl)

theorem argJ_95 (val : Nat → Int) (h : Holds val [.le (.a 4) (-1), tI 3 5, tN 3 8, tN 3 0, tI 9 2, tN 9 1, tN 9 0, .le (.a 8) 2147483647, .ge (.a 8) (-2147483648), tI 0 2, tN 0 1]) : ArgJ val := lf h [(.c 0), (.c 0), (.c 0), (.c 0), (.c 0), (.c 0), (.c 0), (.c 0), (.c 0), (.c 0), (.c 0), (.c 2), (.c 0)] (by kernel_rfl)

theorem argJ_96 (val : Nat → Int) (h : Holds val [tN 3 5, tN 3 8, tN 3 0, tI 9 2, tN 9 1, tN 9 0, .le (.a 8) 2147483647, .ge (.a 8) (-2147483648), tI 0 2, tN 0 1]) : ArgJ val := lf h [(.c 0), (.c 0), (.c 0), (.c 0), (.c 0), (.c 0), (.c 0), (.c 0), (.c 0), (.c 0), (.c 0), (.c 2), (.c 0)] (by kernel_rfl)

theorem argJ_97 (val : Nat → Int) (h : Holds val [tI 5 0, tI 4 0, tI 3 0, tI 9 4, tN 9 2, tN 9 1, tN 9 0, .le (.a 8) 2147483647, .ge (.a 8) (-2147483648), tI 0 2, tN 0 1]) : ArgJ val := by_eq 6 0 h (fun h => by_eq 7 0 h (fun h => lf h [(.a 0), (.c 0), (.c 0), (.a 3), (.a 4), (.a 5), (.a 6), (.a 7), (.a 8), (.a 9), (.c 0), (.c 0), (.a 9)] (by kernel_rfl))
 (fun h => lf h [(.c 0), (.c 0), (.c 0), (.c 0), (.c 0), (.c 0), (.c 0), (.c 0), (.c 0), (.c 0), (.c 0), (.c 2), (.c 0)] (by kernel_rfl)))
 (fun h => lf h [(.c 0), (.c 0), (.c 0), (.c 0), (.c 0), (.c 0), (.c 0), (.c 0), (.c 0), (.c 0), (.c 0), (.c 2), (.c 0)] (by kernel_rfl))

theorem argJ_98 (val : Nat → Int) (h : Holds val [tI 6 4, .at (.or (.eq (.a 7) (.c 1)) (.or (.eq (.a 7) (.c 2)) (.or (.eq (.a 7) (.c 4)) (.or (.eq (.a 7) (.c 8)) .ff)))) true, .le (.a 6) 15, .ge (.a 6) 0, tI 5 5, tN 5 0, tI 4 0, tI 3 0, tI 9 4, tN 9 2, tN 9 1, tN 9 0, .le (.a 8) 2147483647, .ge (.a 8) (-2147483648), tI 0 2, tN 0 1]) : ArgJ val := by_eq 7 1 h (fun h => lf h [(.a 0), (.c 0), (.c 0), (.a 5), (.a 6), (.c 0), (.c 0), (.c 0), (.a 8), (.a 9), (.c 0), (.c 0), (.a 9)] (by kernel_rfl))
 (fun h => by_way (.eq (.c 2) (.a 7)) (tI 7 2) (tN 7 2) rfl rfl h (fun h => lf h [(.c 0), (.c 0), (.c 0), (.c 0), (.c 0), (.c 0), (.c 0), (.c 0), (.c 0), (.c 0), (.c 0), (.c 2), (.c 0)] (by kernel_rfl))
 (fun h => by_way (.eq (.c 4) (.a 7)) (tI 7 4) (tN 7 4) rfl rfl h (fun h => lf h [(.c 0), (.c 0), (.c 0), (.c 0), (.c 0), (.c 0), (.c 0), (.c 0), (.c 0), (.c 0), (.c 0), (.c 2), (.c 0)] (by kernel_rfl))
 (fun h => by_way (.eq (.c 8) (.a 7)) (tI 7 8) (tN 7 8) rfl rfl h (fun h => lf h [(.c 0), (.c 0), (.c 0), (.c 0), (.c 0), (.c 0), (.c 0), (.c 0), (.c 0), (.c 0), (.c 0), (.c 2), (.c 0)] (by kernel_rfl))
 (fun h => lf h [(.c 0), (.c 0), (.c 0), (.c 0), (.c 0), (.c 0), (.c 0), (.c 0), (.c 0), (.c 0), (.c 0), (.c 2), (.c 0)] (by kernel_rfl)))))

theorem argJ_99 (val : Nat → Int) (h : Holds val [tN 6 4, .at (.or (.eq (.a 7) (.c 1)) (.or (.eq (.a 7) (.c 2)) (.or (.eq (.a 7) (.c 4)) (.or (.eq (.a 7) (.c 8)) .ff)))) true, .le (.a 6) 15, .ge (.a 6) 0, tI 5 5, tN 5 0, tI 4 0, tI 3 0, tI 9 4, tN 9 2, tN 9 1, tN 9 0, .le (.a 8) 2147483647, .ge (.a 8) (-2147483648), tI 0 2, tN 0 1]) : ArgJ val := by_eq 7 1 h (fun h => lf h [(.a 0), (.c 0), (.c 0), (.a 5), (.a 6), (.c 0), (.c 0), (.c 0), (.a 8), (.a 9), (.c 0), (.c 0), (.a 9)] (by kernel_rfl))
 (fun h => by_way (.eq (.c 2) (.a 7)) (tI 7 2) (tN 7 2) rfl rfl h (fun h => lf h [(.a 0), (.c 0), (.c 0), (.a 3), (.a 4), (.a 5), (.a 6), (.a 7), (.a 8), (.a 9), (.c 0), (.c 0), (.a 9)] (by kernel_rfl))
 (fun h => by_way (.eq (.c 4) (.a 7)) (tI 7 4) (tN 7 4) rfl rfl h (fun h => lf h [(.a 0), (.c 0), (.c 0), (.a 3), (.a 4), (.a 5), (.a 6), (.a 7), (.a 8), (.a 9), (.c 0), (.c 0), (.a 9)] (by kernel_rfl))
 (fun h => by_way (.eq (.c 8) (.a 7)) (tI 7 8) (tN 7 8) rfl rfl h (fun h => lf h [(.a 0), (.c 0), (.c 0), (.a 3), (.a 4), (.a 5), (.a 6), (.a 7), (.a 8), (.a 9), (.c 0), (.c 0), (.a 9)] (by kernel_rfl))
 (fun h => lf h [(.c 0), (.c 0), (.c 0), (.c 0), (.c 0), (.c 0), (.c 0), (.c 0), (.c 0), (.c 0), (.c 0), (.c 2), (.c 0)] (by kernel_rfl)))))

theorem argJ_100 (val : Nat → Int) (h : Holds val [tI 7 1, .at (.or (.eq (.a 7) (.c 1)) (.or (.eq (.a 7) (.c 2)) (.or (.eq (.a 7) (.c 4)) (.or (.eq (.a 7) (.c 8)) .ff)))) false, .le (.a 6) 15, .ge (.a 6) 0, tI 5 5, tN 5 0, tI 4 0, tI 3 0, tI 9 4, tN 9 2, tN 9 1, tN 9 0, .le (.a 8) 2147483647, .ge (.a 8) (-2147483648), tI 0 2, tN 0 1]) : ArgJ val := by_eq 6 4 h (fun h => lf h [(.a 0), (.c 0), (.c 0), (.a 5), (.a 6), (.c 0), (.c 0), (.c 0), (.a 8), (.a 9), (.c 0), (.c 0), (.a 9)] (by kernel_rfl))
 (fun h => lf h [(.a 0), (.c 0), (.c 0), (.a 5), (.a 6), (.c 0), (.c 0), (.c 0), (.a 8), (.a 9), (.c 0), (.c 0), (.a 9)] (by kernel_rfl))

theorem argJ_101 (val : Nat → Int) (h : Holds val [tI 7 2, tN 7 1, .at (.or (.eq (.a 7) (.c 1)) (.or (.eq (.a 7) (.c 2)) (.or (.eq (.a 7) (.c 4)) (.or (.eq (.a 7) (.c 8)) .ff)))) false, .le (.a 6) 15, .ge (.a 6) 0, tI 5 5, tN 5 0, tI 4 0, tI 3 0, tI 9 4, tN 9 2, tN 9 1, tN 9 0, .le (.a 8) 2147483647, .ge (.a 8) (-2147483648), tI 0 2, tN 0 1]) : ArgJ val := by_eq 6 4 h (fun h => lf h [(.c 0), (.c 0), (.c 0), (.c 0), (.c 0), (.c 0), (.c 0), (.c 0), (.c 0), (.c 0), (.c 0), (.c 2), (.c 0)] (by kernel_rfl))
 (fun h => lf h [(.a 0), (.c 0), (.c 0), (.a 3), (.a 4), (.a 5), (.a 6), (.a 7), (.a 8), (.a 9), (.c 0), (.c 0), (.a 9)] (by kernel_rfl))

theorem argJ_102 (val : Nat → Int) (h : Holds val [tN 7 2, tN 7 1, .at (.or (.eq (.a 7) (.c 1)) (.or (.eq (.a 7) (.c 2)) (.or (.eq (.a 7) (.c 4)) (.or (.eq (.a 7) (.c 8)) .ff)))) false, .le (.a 6) 15, .ge (.a 6) 0, tI 5 5, tN 5 0, tI 4 0, tI 3 0, tI 9 4, tN 9 2, tN 9 1, tN 9 0, .le (.a 8) 2147483647, .ge (.a 8) (-2147483648), tI 0 2, tN 0 1]) : ArgJ val := by_way (.eq (.c 4) (.a 7)) (tI 7 4) (tN 7 4) rfl rfl h (fun h => by_eq 6 4 h (fun h => lf h [(.c 0), (.c 0), (.c 0), (.c 0), (.c 0), (.c 0), (.c 0), (.c 0), (.c 0), (.c 0), (.c 0), (.c 2), (.c 0)] (by kernel_rfl))
 (fun h => lf h [(.a 0), (.c 0), (.c 0), (.a 3), (.a 4), (.a 5), (.a 6), (.a 7), (.a 8), (.a 9), (.c 0), (.c 0), (.a 9)] (by kernel_rfl)))
 (fun h => by_way (.eq (.c 8) (.a 7)) (tI 7 8) (tN 7 8) rfl rfl h (fun h => by_eq 6 4 h (fun h => lf h [(.c 0), (.c 0), (.c 0), (.c 0), (.c 0), (.c 0), (.c 0), (.c 0), (.c 0), (.c 0), (.c 0), (.c 2), (.c 0)] (by kernel_rfl))
 (fun h => lf h [(.a 0), (.c 0), (.c 0), (.a 3), (.a 4), (.a 5), (.a 6), (.a 7), (.a 8), (.a 9), (.c 0), (.c 0), (.a 9)] (by kernel_rfl)))
 (fun h => lf h [(.c 0), (.c 0), (.c 0), (.c 0), (.c 0), (.c 0), (.c 0), (.c 0), (.c 0), (.c 0), (.c 0), (.c 2), (.c 0)] (by kernel_rfl)))

theorem argJ_103 (val : Nat → Int) (h : Holds val [.ge (.a 6) 16, .ge (.a 6) 0, tI 5 5, tN 5 0, tI 4 0, tI 3 0, tI 9 4, tN 9 2, tN 9 1, tN 9 0, .le (.a 8) 2147483647, .ge (.a 8) (-2147483648), tI 0 2, tN 0 1]) : ArgJ val := lf h [(.c 0), (.c 0), (.c 0), (.c 0), (.c 0), (.c 0), (.c 0), (.c 0), (.c 0), (.c 0), (.c 0), (.c 2), (.c 0)] (by kernel_rfl)

theorem argJ_104 (val : Nat → Int) (h : Holds val [.le (.a 6) (-1), tI 5 5, tN 5 0, tI 4 0, tI 3 0, tI 9 4, tN 9 2, tN 9 1, tN 9 0, .le (.a 8) 2147483647, .ge (.a 8) (-2147483648), tI 0 2, tN 0 1]) : ArgJ val := lf h [(.c 0), (.c 0), (.c 0), (.c 0), (.c 0), (.c 0), (.c 0), (.c 0), (.c 0), (.c 0), (.c 0), (.c 2), (.c 0)] (by kernel_rfl)

theorem argJ_105 (val : Nat → Int) (h : Holds val [tN 5 5, tN 5 0, tI 4 0, tI 3 0, tI 9 4, tN 9 2, tN 9 1, tN 9 0, .le (.a 8) 2147483647, .ge (.a 8) (-2147483648), tI 0 2, tN 0 1]) : ArgJ val := lf h [(.c 0), (.c 0), (.c 0), (.c 0), (.c 0), (.c 0), (.c 0), (.c 0), (.c 0), (.c 0), (.c 0), (.c 2), (.c 0)] (by kernel_rfl)

theorem argJ_106 (val : Nat → Int) (h : Holds val [tN 4 0, tI 3 0, tI 9 4, tN 9 2, tN 9 1, tN 9 0, .le (.a 8) 2147483647, .ge (.a 8) (-2147483648), tI 0 2, tN 0 1]) : ArgJ val := lf h [(.c 0), (.c 0), (.c 0), (.c 0), (.c 0), (.c 0), (.c 0), (.c 0), (.c 0), (.c 0), (.c 0), (.c 2), (.c 0)] (by kernel_rfl)

theorem argJ_107 (val : Nat → Int) (h : Holds val [tI 5 0, tI 4 0, tI 3 8, tN 3 0, tI 9 4, tN 9 2, tN 9 1, tN 9 0, .le (.a 8) 2147483647, .ge (.a 8) (-2147483648), tI 0 2, tN 0 1]) : ArgJ val := by_eq 6 0 h (fun h => by_eq 7 0 h (fun h => lf h [(.a 0), (.c 0), (.c 0), (.a 3), (.a 4), (.a 5), (.a 6), (.a 7), (.a 8), (.a 9), (.c 0), (.c 0), (.a 9)] (by kernel_rfl))
 (fun h => lf h [(.c 0), (.c 0), (.c 0), (.c 0), (.c 0), (.c 0), (.c 0), (.c 0), (.c 0), (.c 0), (.c 0), (.c 2), (.c 0)] (by kernel_rfl)))
 (fun h => lf h [(.c 0), (.c 0), (.c 0), (.c 0), (.c 0), (.c 0), (.c 0), (.c 0), (.c 0), (.c 0), (.c 0), (.c 2), (.c 0)] (by kernel_rfl))

end Go.Proofs.Ytndiilfjeconbaa.Tab
