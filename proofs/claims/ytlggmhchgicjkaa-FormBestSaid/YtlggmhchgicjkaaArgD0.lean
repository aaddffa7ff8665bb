/-
  Ways through the code, part 0.
-/
import Derived.Test.YtlggmhchgicjkaaArgH
namespace Go.Proofs.Ytlggmhchgicjkaa.Tab
open Go.Sim
set_option maxRecDepth 100000
set_option linter.unusedSimpArgs false
set_option maxHeartbeats 4000000

theorem argQ_0 (val : Nat → Int) (h : Holds val [tI 1 2, tI 0 1]) : ArgQ val := by_way (.le (.c 4) (.a 2)) (.ge (.a 2) 4) (.le (.a 2) 3) rfl rfl h (fun h => by_way (.lt (.a 2) (.c 8)) (.le (.a 2) 7) (.ge (.a 2) 8) rfl rfl h (fun h => lc_arg h [(.a 0), (.a 1), (.a 2), (.c 0), (.c 0), (.c 0), (.c 0), (.c 0), (.c 0), (.c 0), (.c 0), (.c 0), (.c 0), (.c 1), (.c 0), (.c 1)] (by kernel_rfl) (by kernel_rfl))
 (fun h => lc_arg h [(.c 0), (.c 0), (.c 0), (.c 0), (.c 0), (.c 0), (.c 0), (.c 0), (.c 0), (.c 0), (.c 0), (.c 2), (.c 2), (.c 0), (.c 2), (.c 0)] (by kernel_rfl) (by kernel_rfl)))
 (fun h => lc_arg h [(.c 0), (.c 0), (.c 0), (.c 0), (.c 0), (.c 0), (.c 0), (.c 0), (.c 0), (.c 0), (.c 0), (.c 2), (.c 2), (.c 0), (.c 2), (.c 0)] (by kernel_rfl) (by kernel_rfl))

theorem argQ_1 (val : Nat → Int) (h : Holds val [tI 1 8, tN 1 2, tI 0 1]) : ArgQ val := by_way (.le (.c 0) (.a 2)) (.ge (.a 2) 0) (.le (.a 2) (-1)) rfl rfl h (fun h => by_way (.lt (.a 2) (.c 1)) (.le (.a 2) 0) (.ge (.a 2) 1) rfl rfl h (fun h => lc_arg h [(.c 0), (.c 0), (.c 0), (.c 0), (.c 0), (.c 0), (.c 0), (.c 0), (.c 0), (.c 0), (.c 0), (.c 2), (.c 2), (.c 0), (.c 2), (.c 0)] (by kernel_rfl) (by kernel_rfl))
 (fun h => lc_arg h [(.c 0), (.c 0), (.c 0), (.c 0), (.c 0), (.c 0), (.c 0), (.c 0), (.c 0), (.c 0), (.c 0), (.c 2), (.c 2), (.c 0), (.c 2), (.c 0)] (by kernel_rfl) (by kernel_rfl)))
 (fun h => lc_arg h [(.c 0), (.c 0), (.c 0), (.c 0), (.c 0), (.c 0), (.c 0), (.c 0), (.c 0), (.c 0), (.c 0), (.c 2), (.c 2), (.c 0), (.c 2), (.c 0)] (by kernel_rfl) (by kernel_rfl))

theorem argQ_2 (val : Nat → Int) (h : Holds val [tI 1 1, tN 1 8, tN 1 2, tI 0 1]) : ArgQ val := by_way (.le (.c 0) (.a 2)) (.ge (.a 2) 0) (.le (.a 2) (-1)) rfl rfl h (fun h => by_way (.lt (.a 2) (.c 16)) (.le (.a 2) 15) (.ge (.a 2) 16) rfl rfl h (fun h => lc_arg h [(.a 0), (.a 1), (.a 2), (.c 0), (.c 0), (.c 0), (.c 0), (.c 0), (.c 0), (.c 0), (.c 0), (.c 0), (.c 0), (.c 1), (.c 0), (.c 1)] (by kernel_rfl) (by kernel_rfl))
 (fun h => lc_arg h [(.c 0), (.c 0), (.c 0), (.c 0), (.c 0), (.c 0), (.c 0), (.c 0), (.c 0), (.c 0), (.c 0), (.c 2), (.c 2), (.c 0), (.c 2), (.c 0)] (by kernel_rfl) (by kernel_rfl)))
 (fun h => lc_arg h [(.c 0), (.c 0), (.c 0), (.c 0), (.c 0), (.c 0), (.c 0), (.c 0), (.c 0), (.c 0), (.c 0), (.c 2), (.c 2), (.c 0), (.c 2), (.c 0)] (by kernel_rfl) (by kernel_rfl))

theorem argQ_3 (val : Nat → Int) (h : Holds val [tI 1 3, tN 1 1, tN 1 8, tN 1 2, tI 0 1]) : ArgQ val := by_way (.le (.c 0) (.a 2)) (.ge (.a 2) 0) (.le (.a 2) (-1)) rfl rfl h (fun h => by_way (.lt (.a 2) (.c 16)) (.le (.a 2) 15) (.ge (.a 2) 16) rfl rfl h (fun h => lc_arg h [(.a 0), (.a 1), (.a 2), (.c 0), (.c 0), (.c 0), (.c 0), (.c 0), (.c 0), (.c 0), (.c 0), (.c 0), (.c 0), (.c 2), (.c 0), (.c 2)] (by kernel_rfl) (by kernel_rfl))
 (fun h => lc_arg h [(.c 0), (.c 0), (.c 0), (.c 0), (.c 0), (.c 0), (.c 0), (.c 0), (.c 0), (.c 0), (.c 0), (.c 2), (.c 2), (.c 0), (.c 2), (.c 0)] (by kernel_rfl) (by kernel_rfl)))
 (fun h => lc_arg h [(.c 0), (.c 0), (.c 0), (.c 0), (.c 0), (.c 0), (.c 0), (.c 0), (.c 0), (.c 0), (.c 0), (.c 2), (.c 2), (.c 0), (.c 2), (.c 0)] (by kernel_rfl) (by kernel_rfl))

theorem argQ_4 (val : Nat → Int) (h : Holds val [tI 1 4, tN 1 3, tN 1 1, tN 1 8, tN 1 2, tI 0 1]) : ArgQ val := by_way (.le (.c 0) (.a 2)) (.ge (.a 2) 0) (.le (.a 2) (-1)) rfl rfl h (fun h => by_way (.lt (.a 2) (.c 16)) (.le (.a 2) 15) (.ge (.a 2) 16) rfl rfl h (fun h => lc_arg h [(.a 0), (.a 1), (.a 2), (.c 0), (.c 0), (.c 0), (.c 0), (.c 0), (.c 0), (.c 0), (.c 0), (.c 0), (.c 0), (.c 4), (.c 0), (.c 4)] (by kernel_rfl) (by kernel_rfl))
 (fun h => lc_arg h [(.c 0), (.c 0), (.c 0), (.c 0), (.c 0), (.c 0), (.c 0), (.c 0), (.c 0), (.c 0), (.c 0), (.c 2), (.c 2), (.c 0), (.c 2), (.c 0)] (by kernel_rfl) (by kernel_rfl)))
 (fun h => lc_arg h [(.c 0), (.c 0), (.c 0), (.c 0), (.c 0), (.c 0), (.c 0), (.c 0), (.c 0), (.c 0), (.c 0), (.c 2), (.c 2), (.c 0), (.c 2), (.c 0)] (by kernel_rfl) (by kernel_rfl))

theorem argQ_5 (val : Nat → Int) (h : Holds val [tI 1 5, tN 1 4, tN 1 3, tN 1 1, tN 1 8, tN 1 2, tI 0 1]) : ArgQ val := by_way (.le (.c 0) (.a 2)) (.ge (.a 2) 0) (.le (.a 2) (-1)) rfl rfl h (fun h => by_way (.lt (.a 2) (.c 16)) (.le (.a 2) 15) (.ge (.a 2) 16) rfl rfl h (fun h => lc_arg h [(.a 0), (.a 1), (.a 2), (.c 0), (.c 0), (.c 0), (.c 0), (.c 0), (.c 0), (.c 0), (.c 0), (.c 0), (.c 0), (.c 8), (.c 0), (.c 8)] (by kernel_rfl) (by kernel_rfl))
 (fun h => lc_arg h [(.c 0), (.c 0), (.c 0), (.c 0), (.c 0), (.c 0), (.c 0), (.c 0), (.c 0), (.c 0), (.c 0), (.c 2), (.c 2), (.c 0), (.c 2), (.c 0)] (by kernel_rfl) (by kernel_rfl)))
 (fun h => lc_arg h [(.c 0), (.c 0), (.c 0), (.c 0), (.c 0), (.c 0), (.c 0), (.c 0), (.c 0), (.c 0), (.c 0), (.c 2), (.c 2), (.c 0), (.c 2), (.c 0)] (by kernel_rfl) (by kernel_rfl))

theorem argQ_6 (val : Nat → Int) (h : Holds val [tI 1 6, tN 1 5, tN 1 4, tN 1 3, tN 1 1, tN 1 8, tN 1 2, tI 0 1]) : ArgQ val := by_way (.le (.c 0) (.a 2)) (.ge (.a 2) 0) (.le (.a 2) (-1)) rfl rfl h (fun h => by_way (.lt (.a 2) (.c 16)) (.le (.a 2) 15) (.ge (.a 2) 16) rfl rfl h (fun h => lc_arg h [(.a 0), (.a 1), (.a 2), (.c 0), (.c 0), (.c 0), (.c 0), (.c 0), (.c 0), (.c 0), (.c 0), (.c 0), (.c 0), (.c 16), (.c 0), (.c 16)] (by kernel_rfl) (by kernel_rfl))
 (fun h => lc_arg h [(.c 0), (.c 0), (.c 0), (.c 0), (.c 0), (.c 0), (.c 0), (.c 0), (.c 0), (.c 0), (.c 0), (.c 2), (.c 2), (.c 0), (.c 2), (.c 0)] (by kernel_rfl) (by kernel_rfl)))
 (fun h => lc_arg h [(.c 0), (.c 0), (.c 0), (.c 0), (.c 0), (.c 0), (.c 0), (.c 0), (.c 0), (.c 0), (.c 0), (.c 2), (.c 2), (.c 0), (.c 2), (.c 0)] (by kernel_rfl) (by kernel_rfl))

theorem argQ_7 (val : Nat → Int) (h : Holds val [tN 1 6, tN 1 5, tN 1 4, tN 1 3, tN 1 1, tN 1 8, tN 1 2, tI 0 1]) : ArgQ val := by_eq 1 7 h (fun h => by_way (.le (.c 0) (.a 2)) (.ge (.a 2) 0) (.le (.a 2) (-1)) rfl rfl h (fun h => by_way (.lt (.a 2) (.c 16)) (.le (.a 2) 15) (.ge (.a 2) 16) rfl rfl h (fun h => lc_arg h [(.a 0), (.a 1), (.a 2), (.c 0), (.c 0), (.c 0), (.c 0), (.c 0), (.c 0), (.c 0), (.c 0), (.c 0), (.c 0), (.c 32), (.c 0), (.c 32)] (by kernel_rfl) (by kernel_rfl))
 (fun h => lc_arg h [(.c 0), (.c 0), (.c 0), (.c 0), (.c 0), (.c 0), (.c 0), (.c 0), (.c 0), (.c 0), (.c 0), (.c 2), (.c 2), (.c 0), (.c 2), (.c 0)] (by kernel_rfl) (by kernel_rfl)))
 (fun h => lc_arg h [(.c 0), (.c 0), (.c 0), (.c 0), (.c 0), (.c 0), (.c 0), (.c 0), (.c 0), (.c 0), (.c 0), (.c 2), (.c 2), (.c 0), (.c 2), (.c 0)] (by kernel_rfl) (by kernel_rfl)))
 (fun h => by_way (.le (.c 0) (.a 2)) (.ge (.a 2) 0) (.le (.a 2) (-1)) rfl rfl h (fun h => lc_arg h [(.c 0), (.c 0), (.c 0), (.c 0), (.c 0), (.c 0), (.c 0), (.c 0), (.c 0), (.c 0), (.c 0), (.c 2), (.c 2), (.c 0), (.c 2), (.c 0)] (by kernel_rfl) (by kernel_rfl))
 (fun h => lc_arg h [(.c 0), (.c 0), (.c 0), (.c 0), (.c 0), (.c 0), (.c 0), (.c 0), (.c 0), (.c 0), (.c 0), (.c 2), (.c 2), (.c 0), (.c 2), (.c 0)] (by kernel_rfl) (by kernel_rfl)))

theorem argQ_8 (val : Nat → Int) (h : Holds val [.le (.a 8) (-2147483649), tI 0 2, tN 0 1]) : ArgQ val := lc_arg h [(.c 0), (.c 0), (.c 0), (.c 0), (.c 0), (.c 0), (.c 0), (.c 0), (.c 0), (.c 0), (.c 0), (.c 5), (.c 5), (.c 0), (.c 2), (.c 0)] (by kernel_rfl) (by kernel_rfl)

theorem argQ_9 (val : Nat → Int) (h : Holds val [.ge (.a 8) 2147483648, .ge (.a 8) (-2147483648), tI 0 2, tN 0 1]) : ArgQ val := lc_arg h [(.c 0), (.c 0), (.c 0), (.c 0), (.c 0), (.c 0), (.c 0), (.c 0), (.c 0), (.c 0), (.c 0), (.c 5), (.c 5), (.c 0), (.c 2), (.c 0)] (by kernel_rfl) (by kernel_rfl)

theorem argQ_10 (val : Nat → Int) (h : Holds val [tI 5 0, tI 4 0, tI 3 0, tI 9 0, .le (.a 8) 2147483647, .ge (.a 8) (-2147483648), tI 0 2, tN 0 1]) : ArgQ val := by_eq 6 0 h (fun h => by_eq 7 0 h (fun h => lc_arg h [(.a 0), (.c 0), (.c 0), (.a 3), (.a 4), (.a 5), (.a 6), (.a 7), (.a 8), (.a 9), (.c 0), (.c 0), (.c 0), (.a 9), (.c 0), (.a 9)] (by kernel_rfl) (by kernel_rfl))
 (fun h => lc_arg h [(.c 0), (.c 0), (.c 0), (.c 0), (.c 0), (.c 0), (.c 0), (.c 0), (.c 0), (.c 0), (.c 0), (.c 2), (.c 2), (.c 0), (.c 2), (.c 0)] (by kernel_rfl) (by kernel_rfl)))
 (fun h => lc_arg h [(.c 0), (.c 0), (.c 0), (.c 0), (.c 0), (.c 0), (.c 0), (.c 0), (.c 0), (.c 0), (.c 0), (.c 2), (.c 2), (.c 0), (.c 2), (.c 0)] (by kernel_rfl) (by kernel_rfl))

theorem argQ_11 (val : Nat → Int) (h : Holds val [.ge (.a 6) 0, tI 5 5, tN 5 0, tI 4 0, tI 3 0, tI 9 0, .le (.a 8) 2147483647, .ge (.a 8) (-2147483648), tI 0 2, tN 0 1]) : ArgQ val := by_way (.lt (.a 6) (.c 16)) (.le (.a 6) 15) (.ge (.a 6) 16) rfl rfl h (fun h => by_way (.or (.eq (.a 7) (.c 1)) (.or (.eq (.a 7) (.c 2)) (.or (.eq (.a 7) (.c 4)) (.or (.eq (.a 7) (.c 8)) .ff)))) (.at (.or (.eq (.a 7) (.c 1)) (.or (.eq (.a 7) (.c 2)) (.or (.eq (.a 7) (.c 4)) (.or (.eq (.a 7) (.c 8)) .ff)))) true) (.at (.or (.eq (.a 7) (.c 1)) (.or (.eq (.a 7) (.c 2)) (.or (.eq (.a 7) (.c 4)) (.or (.eq (.a 7) (.c 8)) .ff)))) false) rfl rfl h (fun h => by_eq 6 4 h (fun h => by_eq 7 1 h (fun h => lc_arg h [(.a 0), (.c 0), (.c 0), (.a 5), (.a 6), (.c 0), (.c 0), (.c 0), (.a 8), (.a 9), (.c 0), (.c 0), (.c 0), (.a 9), (.c 0), (.a 9)] (by kernel_rfl) (by kernel_rfl))
 (fun h => lc_arg h [(.c 0), (.c 0), (.c 0), (.c 0), (.c 0), (.c 0), (.c 0), (.c 0), (.c 0), (.c 0), (.c 0), (.c 2), (.c 2), (.c 0), (.c 2), (.c 0)] (by kernel_rfl) (by kernel_rfl)))
 (fun h => by_eq 7 1 h (fun h => lc_arg h [(.a 0), (.c 0), (.c 0), (.a 5), (.a 6), (.c 0), (.c 0), (.c 0), (.a 8), (.a 9), (.c 0), (.c 0), (.c 0), (.a 9), (.c 0), (.a 9)] (by kernel_rfl) (by kernel_rfl))
 (fun h => lc_arg h [(.a 0), (.c 0), (.c 0), (.a 3), (.a 4), (.a 5), (.a 6), (.a 7), (.a 8), (.a 9), (.c 0), (.c 0), (.c 0), (.a 9), (.c 0), (.a 9)] (by kernel_rfl) (by kernel_rfl))))
 (fun h => lc_arg h [(.c 0), (.c 0), (.c 0), (.c 0), (.c 0), (.c 0), (.c 0), (.c 0), (.c 0), (.c 0), (.c 0), (.c 2), (.c 2), (.c 0), (.c 2), (.c 0)] (by kernel_rfl) (by kernel_rfl)))
 (fun h => lc_arg h [(.c 0), (.c 0), (.c 0), (.c 0), (.c 0), (.c 0), (.c 0), (.c 0), (.c 0), (.c 0), (.c 0), (.c 2), (.c 2), (.c 0), (.c 2), (.c 0)] (by kernel_rfl) (by kernel_rfl))

theorem argQ_12 (val : Nat → Int) (h : Holds val [.le (.a 6) (-1), tI 5 5, tN 5 0, tI 4 0, tI 3 0, tI 9 0, .le (.a 8) 2147483647, .ge (.a 8) (-2147483648), tI 0 2, tN 0 1]) : ArgQ val := lc_arg h [(.c 0), (.c 0), (.c 0), (.c 0), (.c 0), (.c 0), (.c 0), (.c 0), (.c 0), (.c 0), (.c 0), (.c 2), (.c 2), (.c 0), (.c 2), (.c 0)] (by kernel_rfl) (by kernel_rfl)

theorem argQ_13 (val : Nat → Int) (h : Holds val [tN 5 5, tN 5 0, tI 4 0, tI 3 0, tI 9 0, .le (.a 8) 2147483647, .ge (.a 8) (-2147483648), tI 0 2, tN 0 1]) : ArgQ val := lc_arg h [(.c 0), (.c 0), (.c 0), (.c 0), (.c 0), (.c 0), (.c 0), (.c 0), (.c 0), (.c 0), (.c 0), (.c 2), (.c 2), (.c 0), (.c 2), (.c 0)] (by kernel_rfl) (by kernel_rfl)

theorem argQ_14 (val : Nat → Int) (h : Holds val [tN 4 0, tI 3 0, tI 9 0, .le (.a 8) 2147483647, .ge (.a 8) (-2147483648), tI 0 2, tN 0 1]) : ArgQ val := lc_arg h [(.c 0), (.c 0), (.c 0), (.c 0), (.c 0), (.c 0), (.c 0), (.c 0), (.c 0), (.c 0), (.c 0), (.c 2), (.c 2), (.c 0), (.c 2), (.c 0)] (by kernel_rfl) (by kernel_rfl)

theorem argQ_15 (val : Nat → Int) (h : Holds val [tI 5 0, tI 4 0, tI 3 8, tN 3 0, tI 9 0, .le (.a 8) 2147483647, .ge (.a 8) (-2147483648), tI 0 2, tN 0 1]) : ArgQ val := by_eq 6 0 h (fun h => by_eq 7 0 h (fun h => lc_arg h [(.a 0), (.c 0), (.c 0), (.a 3), (.a 4), (.a 5), (.a 6), (.a 7), (.a 8), (.a 9), (.c 0), (.c 0), (.c 0), (.a 9), (.c 0), (.a 9)] (by kernel_rfl) (by kernel_rfl))
 (fun h => lc_arg h [(.c 0), (.c 0), (.c 0), (.c 0), (.c 0), (.c 0), (.c 0), (.c 0), (.c 0), (.c 0), (.c 0), (.c 2), (.c 2), (.c 0), (.c 2), (.c 0)] (by kernel_rfl) (by kernel_rfl)))
 (fun h => lc_arg h [(.c 0), (.c 0), (.c 0), (.c 0), (.c 0), (.c 0), (.c 0), (.c 0), (.c 0), (.c 0), (.c 0), (.c 2), (.c 2), (.c 0), (.c 2), (.c 0)] (by kernel_rfl) (by kernel_rfl))

theorem argQ_16 (val : Nat → Int) (h : Holds val [tN 5 0, tI 4 0, tI 3 8, tN 3 0, tI 9 0, .le (.a 8) 2147483647, .ge (.a 8) (-2147483648), tI 0 2, tN 0 1]) : ArgQ val := by_eq 5 5 h (fun h => by_way (.le (.c 0) (.a 6)) (.ge (.a 6) 0) (.le (.a 6) (-1)) rfl rfl h (fun h => by_way (.lt (.a 6) (.c 16)) (.le (.a 6) 15) (.ge (.a 6) 16) rfl rfl h (fun h => by_way (.or (.eq (.a 7) (.c 1)) (.or (.eq (.a 7) (.c 2)) (.or (.eq (.a 7) (.c 4)) (.or (.eq (.a 7) (.c 8)) .ff)))) (.at (.or (.eq (.a 7) (.c 1)) (.or (.eq (.a 7) (.c 2)) (.or (.eq (.a 7) (.c 4)) (.or (.eq (.a 7) (.c 8)) .ff)))) true) (.at (.or (.eq (.a 7) (.c 1)) (.or (.eq (.a 7) (.c 2)) (.or (.eq (.a 7) (.c 4)) (.or (.eq (.a 7) (.c 8)) .ff)))) false) rfl rfl h (fun h => lc_arg h [(.c 0), (.c 0), (.c 0), (.c 0), (.c 0), (.c 0), (.c 0), (.c 0), (.c 0), (.c 0), (.c 0), (.c 2), (.c 2), (.c 0), (.c 2), (.c 0)] (by kernel_rfl) (by kernel_rfl))
 (fun h => lc_arg h [(.c 0), (.c 0), (.c 0), (.c 0), (.c 0), (.c 0), (.c 0), (.c 0), (.c 0), (.c 0), (.c 0), (.c 2), (.c 2), (.c 0), (.c 2), (.c 0)] (by kernel_rfl) (by kernel_rfl)))
 (fun h => lc_arg h [(.c 0), (.c 0), (.c 0), (.c 0), (.c 0), (.c 0), (.c 0), (.c 0), (.c 0), (.c 0), (.c 0), (.c 2), (.c 2), (.c 0), (.c 2), (.c 0)] (by kernel_rfl) (by kernel_rfl)))
 (fun h => lc_arg h [(.c 0), (.c 0), (.c 0), (.c 0), (.c 0), (.c 0), (.c 0), (.c 0), (.c 0), (.c 0), (.c 0), (.c 2), (.c 2), (.c 0), (.c 2), (.c 0)] (by kernel_rfl) (by kernel_rfl)))
 (fun h => lc_arg h [(.c 0), (.c 0), (.c 0), (.c 0), (.c 0), (.c 0), (.c 0), (.c 0), (.c 0), (.c 0), (.c 0), (.c 2), (.c 2), (.c 0), (.c 2), (.c 0)] (by kernel_rfl) (by kernel_rfl))

theorem argQ_17 (val : Nat → Int) (h : Holds val [tN 4 0, tI 3 8, tN 3 0, tI 9 0, .le (.a 8) 2147483647, .ge (.a 8) (-2147483648), tI 0 2, tN 0 1]) : ArgQ val := lc_arg h [(.c 0), (.c 0), (.c 0), (.c 0), (.c 0), (.c 0), (.c 0), (.c 0), (.c 0), (.c 0), (.c 0), (.c 2), (.c 2), (.c 0), (.c 2), (.c 0)] (by kernel_rfl) (by kernel_rfl)

theorem argQ_18 (val : Nat → Int) (h : Holds val [tI 5 0, .le (.a 4) 15, .ge (.a 4) 0, tI 3 5, tN 3 8, tN 3 0, tI 9 0, .le (.a 8) 2147483647, .ge (.a 8) (-2147483648), tI 0 2, tN 0 1]) : ArgQ val := by_eq 6 0 h (fun h => by_eq 7 0 h (fun h => lc_arg h [(.a 0), (.c 0), (.c 0), (.a 3), (.a 4), (.a 5), (.a 6), (.a 7), (.a 8), (.a 9), (.c 0), (.c 0), (.c 0), (.a 9), (.c 0), (.a 9)] (by kernel_rfl) (by kernel_rfl))
 (fun h => lc_arg h [(.c 0), (.c 0), (.c 0), (.c 0), (.c 0), (.c 0), (.c 0), (.c 0), (.c 0), (.c 0), (.c 0), (.c 2), (.c 2), (.c 0), (.c 2), (.c 0)] (by kernel_rfl) (by kernel_rfl)))
 (fun h => lc_arg h [(.c 0), (.c 0), (.c 0), (.c 0), (.c 0), (.c 0), (.c 0), (.c 0), (.c 0), (.c 0), (.c 0), (.c 2), (.c 2), (.c 0), (.c 2), (.c 0)] (by kernel_rfl) (by kernel_rfl))

theorem argQ_19 (val : Nat → Int) (h : Holds val [.le (.a 6) 15, .ge (.a 6) 0, tI 5 5, tN 5 0, .le (.a 4) 15, .ge (.a 4) 0, tI 3 5, tN 3 8, tN 3 0, tI 9 0, .le (.a 8) 2147483647, .ge (.a 8) (-2147483648), tI 0 2, tN 0 1]) : ArgQ val := by_way (.or (.eq (.a 7) (.c 1)) (.or (.eq (.a 7) (.c 2)) (.or (.eq (.a 7) (.c 4)) (.or (.eq (.a 7) (.c 8)) .ff)))) (.at (.or (.eq (.a 7) (.c 1)) (.or (.eq (.a 7) (.c 2)) (.or (.eq (.a 7) (.c 4)) (.or (.eq (.a 7) (.c 8)) .ff)))) true) (.at (.or (.eq (.a 7) (.c 1)) (.or (.eq (.a 7) (.c 2)) (.or (.eq (.a 7) (.c 4)) (.or (.eq (.a 7) (.c 8)) .ff)))) false) rfl rfl h (fun h => by_eq 6 4 h (fun h => by_eq 7 1 h (fun h => by_eq 4 4 h (fun h => lc_arg h [(.c 0), (.c 0), (.c 0), (.c 0), (.c 0), (.c 0), (.c 0), (.c 0), (.c 0), (.c 0), (.c 0), (.c 2), (.c 2), (.c 0), (.c 2), (.c 0)] (by kernel_rfl) (by kernel_rfl))
 (fun h => lc_arg h [(.a 0), (.c 0), (.c 0), (.a 5), (.a 6), (.a 3), (.a 4), (.a 7), (.a 8), (.a 9), (.c 0), (.c 0), (.c 0), (.a 9), (.c 0), (.a 9)] (by kernel_rfl) (by kernel_rfl)))
 (fun h => lc_arg h [(.c 0), (.c 0), (.c 0), (.c 0), (.c 0), (.c 0), (.c 0), (.c 0), (.c 0), (.c 0), (.c 0), (.c 2), (.c 2), (.c 0), (.c 2), (.c 0)] (by kernel_rfl) (by kernel_rfl)))
 (fun h => by_eq 7 1 h (fun h => lc_arg h [(.a 0), (.c 0), (.c 0), (.a 3), (.a 4), (.a 5), (.a 6), (.a 7), (.a 8), (.a 9), (.c 0), (.c 0), (.c 0), (.a 9), (.c 0), (.a 9)] (by kernel_rfl) (by kernel_rfl))
 (fun h => lc_arg h [(.a 0), (.c 0), (.c 0), (.a 3), (.a 4), (.a 5), (.a 6), (.a 7), (.a 8), (.a 9), (.c 0), (.c 0), (.c 0), (.a 9), (.c 0), (.a 9)] (by kernel_rfl) (by kernel_rfl))))
 (fun h => lc_arg h [(.c 0), (.c 0), (.c 0), (.c 0), (.c 0), (.c 0), (.c 0), (.c 0), (.c 0), (.c 0), (.c 0), (.c 2), (.c 2), (.c 0), (.c 2), (.c 0)] (by kernel_rfl) (by kernel_rfl))

theorem argQ_20 (val : Nat → Int) (h : Holds val [.ge (.a 6) 16, .ge (.a 6) 0, tI 5 5, tN 5 0, .le (.a 4) 15, .ge (.a 4) 0, tI 3 5, tN 3 8, tN 3 0, tI 9 0, .le (.a 8) 2147483647, .ge (.a 8) (-2147483648), tI 0 2, tN 0 1]) : ArgQ val := lc_arg h [(.c 0), (.c 0), (.c 0), (.c 0), (.c 0), (.c 0), (.c 0), (.c 0), (.c 0), (.c 0), (.c 0), (.c 2), (.c 2), (.c 0), (.c 2), (.c 0)] (by kernel_rfl) (by kernel_rfl)

theorem argQ_21 (val : Nat → Int) (h : Holds val [.le (.a 6) (-1), tI 5 5, tN 5 0, .le (.a 4) 15, .ge (.a 4) 0, tI 3 5, tN 3 8, tN 3 0, tI 9 0, .le (.a 8) 2147483647, .ge (.a 8) (-2147483648), tI 0 2, tN 0 1]) : ArgQ val := lc_arg h [(.c 0), (.c 0), (.c 0), (.c 0), (.c 0), (.c 0), (.c 0), (.c 0), (.c 0), (.c 0), (.c 0), (.c 2), (.c 2), (.c 0), (.c 2), (.c 0)] (by kernel_rfl) (by kernel_rfl)

theorem argQ_22 (val : Nat → Int) (h : Holds val [tN 5 5, tN 5 0, .le (.a 4) 15, .ge (.a 4) 0, tI 3 5, tN 3 8, tN 3 0, tI 9 0, .le (.a 8) 2147483647, .ge (.a 8) (-2147483648), tI 0 2, tN 0 1]) : ArgQ val := lc_arg h [(.c 0), (.c 0), (.c 0), (.c 0), (.c 0), (.c 0), (.c 0), (.c 0), (.c 0), (.c 0), (.c 0), (.c 2), (.c 2), (.c 0), (.c 2), (.c 0)] (by kernel_rfl) (by kernel_rfl)

theorem argQ_23 (val : Nat → Int) (h : Holds val [.ge (.a 4) 16, .ge (.a 4) 0, tI 3 5, tN 3 8, tN 3 0, tI 9 0, .le (.a 8) 2147483647, .ge (.a 8) (-2147483648), tI 0 2, tN 0 1]) : ArgQ val := lc_arg h [(.c 0), (.c 0), (.c 0), (.c 0), (.c 0), (.c 0), (.c 0), (.c 0), (.c 0), (.c 0), (.c 0), (.c 2), (.c 2), (.c 0), (.c 2), (.c 0)] (by kernel_rfl) (by kernel_rfl)

theorem argQ_24 (val : Nat → Int) (h : Holds val [.le (.a 4) (-1), tI 3 5, tN 3 8, tN 3 0, tI 9 0, .le (.a 8) 2147483647, .ge (.a 8) (-2147483648), tI 0 2, tN 0 1]) : ArgQ val := lc_arg h [(.c 0), (.c 0), (.c 0), (.c 0), (.c 0), (.c 0), (.c 0), (.c 0), (.c 0), (.c 0), (.c 0), (.c 2), (.c 2), (.c 0), (.c 2), (.c 0)] (by kernel_rfl) (by kernel_rfl)

end Go.Proofs.Ytlggmhchgicjkaa.Tab
