/-
  Ways through the code, part 4.
-/
import Derived.Test.YtlggmhchgicjkaaArgH
namespace Go.Proofs.Ytlggmhchgicjkaa.Tab
open Go.Sim
set_option maxRecDepth 100000
set_option linter.unusedSimpArgs false
set_option maxHeartbeats 4000000

theorem argQ_100 (val : Nat → Int) (h : Holds val [.ge (.a 6) 16, .ge (.a 6) 0, tI 5 5, tN 5 0, .le (.a 4) 15, .ge (.a 4) 0, tI 3 5, tN 3 8, tN 3 0, tI 9 16, tN 9 8, tN 9 4, tN 9 2, tN 9 1, tN 9 0, .le (.a 8) 2147483647, .ge (.a 8) (-2147483648), tI 0 2, tN 0 1]) : ArgQ val := lc_arg h [(.c 0), (.c 0), (.c 0), (.c 0), (.c 0), (.c 0), (.c 0), (.c 0), (.c 0), (.c 0), (.c 0), (.c 2), (.c 2), (.c 0), (.c 2), (.c 0)] (by kernel_rfl) (by kernel_rfl)

theorem argQ_101 (val : Nat → Int) (h : Holds val [.le (.a 6) (-1), tI 5 5, tN 5 0, .le (.a 4) 15, .ge (.a 4) 0, tI 3 5, tN 3 8, tN 3 0, tI 9 16, tN 9 8, tN 9 4, tN 9 2, tN 9 1, tN 9 0, .le (.a 8) 2147483647, .ge (.a 8) (-2147483648), tI 0 2, tN 0 1]) : ArgQ val := lc_arg h [(.c 0), (.c 0), (.c 0), (.c 0), (.c 0), (.c 0), (.c 0), (.c 0), (.c 0), (.c 0), (.c 0), (.c 2), (.c 2), (.c 0), (.c 2), (.c 0)] (by kernel_rfl) (by kernel_rfl)

theorem argQ_102 (val : Nat → Int) (h : Holds val [tN 5 5, tN 5 0, .le (.a 4) 15, .ge (.a 4) 0, tI 3 5, tN 3 8, tN 3 0, tI 9 16, tN 9 8, tN 9 4, tN 9 2, tN 9 1, tN 9 0, .le (.a 8) 2147483647, .ge (.a 8) (-2147483648), tI 0 2, tN 0 1]) : ArgQ val := lc_arg h [(.c 0), (.c 0), (.c 0), (.c 0), (.c 0), (.c 0), (.c 0), (.c 0), (.c 0), (.c 0), (.c 0), (.c 2), (.c 2), (.c 0), (.c 2), (.c 0)] (by kernel_rfl) (by kernel_rfl)

theorem argQ_103 (val : Nat → Int) (h : Holds val [.ge (.a 4) 16, .ge (.a 4) 0, tI 3 5, tN 3 8, tN 3 0, tI 9 16, tN 9 8, tN 9 4, tN 9 2, tN 9 1, tN 9 0, .le (.a 8) 2147483647, .ge (.a 8) (-2147483648), tI 0 2, tN 0 1]) : ArgQ val := lc_arg h [(.c 0), (.c 0), (.c 0), (.c 0), (.c 0), (.c 0), (.c 0), (.c 0), (.c 0), (.c 0), (.c 0), (.c 2), (.c 2), (.c 0), (.c 2), (.c 0)] (by kernel_rfl) (by kernel_rfl)

theorem argQ_104 (val : Nat → Int) (h : Holds val [.le (.a 4) (-1), tI 3 5, tN 3 8, tN 3 0, tI 9 16, tN 9 8, tN 9 4, tN 9 2, tN 9 1, tN 9 0, .le (.a 8) 2147483647, .ge (.a 8) (-2147483648), tI 0 2, tN 0 1]) : ArgQ val := lc_arg h [(.c 0), (.c 0), (.c 0), (.c 0), (.c 0), (.c 0), (.c 0), (.c 0), (.c 0), (.c 0), (.c 0), (.c 2), (.c 2), (.c 0), (.c 2), (.c 0)] (by kernel_rfl) (by kernel_rfl)

theorem argQ_105 (val : Nat → Int) (h : Holds val [tN 3 5, tN 3 8, tN 3 0, tI 9 16, tN 9 8, tN 9 4, tN 9 2, tN 9 1, tN 9 0, .le (.a 8) 2147483647, .ge (.a 8) (-2147483648), tI 0 2, tN 0 1]) : ArgQ val := lc_arg h [(.c 0), (.c 0), (.c 0), (.c 0), (.c 0), (.c 0), (.c 0), (.c 0), (.c 0), (.c 0), (.c 0), (.c 2), (.c 2), (.c 0), (.c 2), (.c 0)] (by kernel_rfl) (by kernel_rfl)

theorem argQ_106 (val : Nat → Int) (h : Holds val [tI 5 0, tI 4 0, tI 3 0, tI 9 32, tN 9 16, tN 9 8, tN 9 4, tN 9 2, tN 9 1, tN 9 0, .le (.a 8) 2147483647, .ge (.a 8) (-2147483648), tI 0 2, tN 0 1]) : ArgQ val := by_eq 6 0 h (fun h => by_eq 7 0 h (fun h => lc_arg h [(.a 0), (.c 0), (.c 0), (.a 3), (.a 4), (.a 5), (.a 6), (.a 7), (.a 8), (.a 9), (.c 0), (.c 0), (.c 0), (.a 9), (.c 0), (.a 9)] (by kernel_rfl) (by kernel_rfl))
 (fun h => lc_arg h [(.c 0), (.c 0), (.c 0), (.c 0), (.c 0), (.c 0), (.c 0), (.c 0), (.c 0), (.c 0), (.c 0), (.c 2), (.c 2), (.c 0), (.c 2), (.c 0)] (by kernel_rfl) (by kernel_rfl)))
 (fun h => lc_arg h [(.c 0), (.c 0), (.c 0), (.c 0), (.c 0), (.c 0), (.c 0), (.c 0), (.c 0), (.c 0), (.c 0), (.c 2), (.c 2), (.c 0), (.c 2), (.c 0)] (by kernel_rfl) (by kernel_rfl))

theorem argQ_107 (val : Nat → Int) (h : Holds val [.ge (.a 6) 0, tI 5 5, tN 5 0, tI 4 0, tI 3 0, tI 9 32, tN 9 16, tN 9 8, tN 9 4, tN 9 2, tN 9 1, tN 9 0, .le (.a 8) 2147483647, .ge (.a 8) (-2147483648), tI 0 2, tN 0 1]) : ArgQ val := by_way (.lt (.a 6) (.c 16)) (.le (.a 6) 15) (.ge (.a 6) 16) rfl rfl h (fun h => by_way (.or (.eq (.a 7) (.c 1)) (.or (.eq (.a 7) (.c 2)) (.or (.eq (.a 7) (.c 4)) (.or (.eq (.a 7) (.c 8)) .ff)))) (.at (.or (.eq (.a 7) (.c 1)) (.or (.eq (.a 7) (.c 2)) (.or (.eq (.a 7) (.c 4)) (.or (.eq (.a 7) (.c 8)) .ff)))) true) (.at (.or (.eq (.a 7) (.c 1)) (.or (.eq (.a 7) (.c 2)) (.or (.eq (.a 7) (.c 4)) (.or (.eq (.a 7) (.c 8)) .ff)))) false) rfl rfl h (fun h => by_eq 6 4 h (fun h => by_eq 7 1 h (fun h => lc_arg h [(.a 0), (.c 0), (.c 0), (.a 5), (.a 6), (.c 0), (.c 0), (.c 0), (.a 8), (.a 9), (.c 0), (.c 0), (.c 0), (.a 9), (.c 0), (.a 9)] (by kernel_rfl) (by kernel_rfl))
 (fun h => lc_arg h [(.c 0), (.c 0), (.c 0), (.c 0), (.c 0), (.c 0), (.c 0), (.c 0), (.c 0), (.c 0), (.c 0), (.c 2), (.c 2), (.c 0), (.c 2), (.c 0)] (by kernel_rfl) (by kernel_rfl)))
 (fun h => by_eq 7 1 h (fun h => lc_arg h [(.a 0), (.c 0), (.c 0), (.a 5), (.a 6), (.c 0), (.c 0), (.c 0), (.a 8), (.a 9), (.c 0), (.c 0), (.c 0), (.a 9), (.c 0), (.a 9)] (by kernel_rfl) (by kernel_rfl))
 (fun h => lc_arg h [(.a 0), (.c 0), (.c 0), (.a 3), (.a 4), (.a 5), (.a 6), (.a 7), (.a 8), (.a 9), (.c 0), (.c 0), (.c 0), (.a 9), (.c 0), (.a 9)] (by kernel_rfl) (by kernel_rfl))))
 (fun h => lc_arg h [(.c 0), (.c 0), (.c 0), (.c 0), (.c 0), (.c 0), (.c 0), (.c 0), (.c 0), (.c 0), (.c 0), (.c 2), (.c 2), (.c 0), (.c 2), (.c 0)] (by kernel_rfl) (by kernel_rfl)))
 (fun h => lc_arg h [(.c 0), (.c 0), (.c 0), (.c 0), (.c 0), (.c 0), (.c 0), (.c 0), (.c 0), (.c 0), (.c 0), (.c 2), (.c 2), (.c 0), (.c 2), (.c 0)] (by kernel_rfl) (by kernel_rfl))

theorem argQ_108 (val : Nat → Int) (h : Holds val [.le (.a 6) (-1), tI 5 5, tN 5 0, tI 4 0, tI 3 0, tI 9 32, tN 9 16, tN 9 8, tN 9 4, tN 9 2, tN 9 1, tN 9 0, .le (.a 8) 2147483647, .ge (.a 8) (-2147483648), tI 0 2, tN 0 1]) : ArgQ val := lc_arg h [(.c 0), (.c 0), (.c 0), (.c 0), (.c 0), (.c 0), (.c 0), (.c 0), (.c 0), (.c 0), (.c 0), (.c 2), (.c 2), (.c 0), (.c 2), (.c 0)] (by kernel_rfl) (by kernel_rfl)

theorem argQ_109 (val : Nat → Int) (h : Holds val [tN 5 5, tN 5 0, tI 4 0, tI 3 0, tI 9 32, tN 9 16, tN 9 8, tN 9 4, tN 9 2, tN 9 1, tN 9 0, .le (.a 8) 2147483647, .ge (.a 8) (-2147483648), tI 0 2, tN 0 1]) : ArgQ val := lc_arg h [(.c 0), (.c 0), (.c 0), (.c 0), (.c 0), (.c 0), (.c 0), (.c 0), (.c 0), (.c 0), (.c 0), (.c 2), (.c 2), (.c 0), (.c 2), (.c 0)] (by kernel_rfl) (by kernel_rfl)

theorem argQ_110 (val : Nat → Int) (h : Holds val [tN 4 0, tI 3 0, tI 9 32, tN 9 16, tN 9 8, tN 9 4, tN 9 2, tN 9 1, tN 9 0, .le (.a 8) 2147483647, .ge (.a 8) (-2147483648), tI 0 2, tN 0 1]) : ArgQ val := lc_arg h [(.c 0), (.c 0), (.c 0), (.c 0), (.c 0), (.c 0), (.c 0), (.c 0), (.c 0), (.c 0), (.c 0), (.c 2), (.c 2), (.c 0), (.c 2), (.c 0)] (by kernel_rfl) (by kernel_rfl)

theorem argQ_111 (val : Nat → Int) (h : Holds val [tI 5 0, tI 4 0, tI 3 8, tN 3 0, tI 9 32, tN 9 16, tN 9 8, tN 9 4, tN 9 2, tN 9 1, tN 9 0, .le (.a 8) 2147483647, .ge (.a 8) (-2147483648), tI 0 2, tN 0 1]) : ArgQ val := by_eq 6 0 h (fun h => by_eq 7 0 h (fun h => lc_arg h [(.a 0), (.c 0), (.c 0), (.a 3), (.a 4), (.a 5), (.a 6), (.a 7), (.a 8), (.a 9), (.c 0), (.c 0), (.c 0), (.a 9), (.c 0), (.a 9)] (by kernel_rfl) (by kernel_rfl))
 (fun h => lc_arg h [(.c 0), (.c 0), (.c 0), (.c 0), (.c 0), (.c 0), (.c 0), (.c 0), (.c 0), (.c 0), (.c 0), (.c 2), (.c 2), (.c 0), (.c 2), (.c 0)] (by kernel_rfl) (by kernel_rfl)))
 (fun h => lc_arg h [(.c 0), (.c 0), (.c 0), (.c 0), (.c 0), (.c 0), (.c 0), (.c 0), (.c 0), (.c 0), (.c 0), (.c 2), (.c 2), (.c 0), (.c 2), (.c 0)] (by kernel_rfl) (by kernel_rfl))

theorem argQ_112 (val : Nat → Int) (h : Holds val [tN 5 0, tI 4 0, tI 3 8, tN 3 0, tI 9 32, tN 9 16, tN 9 8, tN 9 4, tN 9 2, tN 9 1, tN 9 0, .le (.a 8) 2147483647, .ge (.a 8) (-2147483648), tI 0 2, tN 0 1]) : ArgQ val := by_eq 5 5 h (fun h => by_way (.le (.c 0) (.a 6)) (.ge (.a 6) 0) (.le (.a 6) (-1)) rfl rfl h (fun h => by_way (.lt (.a 6) (.c 16)) (.le (.a 6) 15) (.ge (.a 6) 16) rfl rfl h (fun h => by_way (.or (.eq (.a 7) (.c 1)) (.or (.eq (.a 7) (.c 2)) (.or (.eq (.a 7) (.c 4)) (.or (.eq (.a 7) (.c 8)) .ff)))) (.at (.or (.eq (.a 7) (.c 1)) (.or (.eq (.a 7) (.c 2)) (.or (.eq (.a 7) (.c 4)) (.or (.eq (.a 7) (.c 8)) .ff)))) true) (.at (.or (.eq (.a 7) (.c 1)) (.or (.eq (.a 7) (.c 2)) (.or (.eq (.a 7) (.c 4)) (.or (.eq (.a 7) (.c 8)) .ff)))) false) rfl rfl h (fun h => lc_arg h [(.c 0), (.c 0), (.c 0), (.c 0), (.c 0), (.c 0), (.c 0), (.c 0), (.c 0), (.c 0), (.c 0), (.c 2), (.c 2), (.c 0), (.c 2), (.c 0)] (by kernel_rfl) (by kernel_rfl))
 (fun h => lc_arg h [(.c 0), (.c 0), (.c 0), (.c 0), (.c 0), (.c 0), (.c 0), (.c 0), (.c 0), (.c 0), (.c 0), (.c 2), (.c 2), (.c 0), (.c 2), (.c 0)] (by kernel_rfl) (by kernel_rfl)))
 (fun h => lc_arg h [(.c 0), (.c 0), (.c 0), (.c 0), (.c 0), (.c 0), (.c 0), (.c 0), (.c 0), (.c 0), (.c 0), (.c 2), (.c 2), (.c 0), (.c 2), (.c 0)] (by kernel_rfl) (by kernel_rfl)))
 (fun h => lc_arg h [(.c 0), (.c 0), (.c 0), (.c 0), (.c 0), (.c 0), (.c 0), (.c 0), (.c 0), (.c 0), (.c 0), (.c 2), (.c 2), (.c 0), (.c 2), (.c 0)] (by kernel_rfl) (by kernel_rfl)))
 (fun h => lc_arg h [(.c 0), (.c 0), (.c 0), (.c 0), (.c 0), (.c 0), (.c 0), (.c 0), (.c 0), (.c 0), (.c 0), (.c 2), (.c 2), (.c 0), (.c 2), (.c 0)] (by kernel_rfl) (by kernel_rfl))

theorem argQ_113 (val : Nat → Int) (h : Holds val [tN 4 0, tI 3 8, tN 3 0, tI 9 32, tN 9 16, tN 9 8, tN 9 4, tN 9 2, tN 9 1, tN 9 0, .le (.a 8) 2147483647, .ge (.a 8) (-2147483648), tI 0 2, tN 0 1]) : ArgQ val := lc_arg h [(.c 0), (.c 0), (.c 0), (.c 0), (.c 0), (.c 0), (.c 0), (.c 0), (.c 0), (.c 0), (.c 0), (.c 2), (.c 2), (.c 0), (.c 2), (.c 0)] (by kernel_rfl) (by kernel_rfl)

theorem argQ_114 (val : Nat → Int) (h : Holds val [tI 5 0, .le (.a 4) 15, .ge (.a 4) 0, tI 3 5, tN 3 8, tN 3 0, tI 9 32, tN 9 16, tN 9 8, tN 9 4, tN 9 2, tN 9 1, tN 9 0, .le (.a 8) 2147483647, .ge (.a 8) (-2147483648), tI 0 2, tN 0 1]) : ArgQ val := by_eq 6 0 h (fun h => by_eq 7 0 h (fun h => lc_arg h [(.a 0), (.c 0), (.c 0), (.a 3), (.a 4), (.a 5), (.a 6), (.a 7), (.a 8), (.a 9), (.c 0), (.c 0), (.c 0), (.a 9), (.c 0), (.a 9)] (by kernel_rfl) (by kernel_rfl))
 (fun h => lc_arg h [(.c 0), (.c 0), (.c 0), (.c 0), (.c 0), (.c 0), (.c 0), (.c 0), (.c 0), (.c 0), (.c 0), (.c 2), (.c 2), (.c 0), (.c 2), (.c 0)] (by kernel_rfl) (by kernel_rfl)))
 (fun h => lc_arg h [(.c 0), (.c 0), (.c 0), (.c 0), (.c 0), (.c 0), (.c 0), (.c 0), (.c 0), (.c 0), (.c 0), (.c 2), (.c 2), (.c 0), (.c 2), (.c 0)] (by kernel_rfl) (by kernel_rfl))

theorem argQ_115 (val : Nat → Int) (h : Holds val [.le (.a 6) 15, .ge (.a 6) 0, tI 5 5, tN 5 0, .le (.a 4) 15, .ge (.a 4) 0, tI 3 5, tN 3 8, tN 3 0, tI 9 32, tN 9 16, tN 9 8, tN 9 4, tN 9 2, tN 9 1, tN 9 0, .le (.a 8) 2147483647, .ge (.a 8) (-2147483648), tI 0 2, tN 0 1]) : ArgQ val := by_way (.or (.eq (.a 7) (.c 1)) (.or (.eq (.a 7) (.c 2)) (.or (.eq (.a 7) (.c 4)) (.or (.eq (.a 7) (.c 8)) .ff)))) (.at (.or (.eq (.a 7) (.c 1)) (.or (.eq (.a 7) (.c 2)) (.or (.eq (.a 7) (.c 4)) (.or (.eq (.a 7) (.c 8)) .ff)))) true) (.at (.or (.eq (.a 7) (.c 1)) (.or (.eq (.a 7) (.c 2)) (.or (.eq (.a 7) (.c 4)) (.or (.eq (.a 7) (.c 8)) .ff)))) false) rfl rfl h (fun h => by_eq 6 4 h (fun h => by_eq 7 1 h (fun h => by_eq 4 4 h (fun h => lc_arg h [(.c 0), (.c 0), (.c 0), (.c 0), (.c 0), (.c 0), (.c 0), (.c 0), (.c 0), (.c 0), (.c 0), (.c 2), (.c 2), (.c 0), (.c 2), (.c 0)] (by kernel_rfl) (by kernel_rfl))
 (fun h => lc_arg h [(.a 0), (.c 0), (.c 0), (.a 5), (.a 6), (.a 3), (.a 4), (.a 7), (.a 8), (.a 9), (.c 0), (.c 0), (.c 0), (.a 9), (.c 0), (.a 9)] (by kernel_rfl) (by kernel_rfl)))
 (fun h => lc_arg h [(.c 0), (.c 0), (.c 0), (.c 0), (.c 0), (.c 0), (.c 0), (.c 0), (.c 0), (.c 0), (.c 0), (.c 2), (.c 2), (.c 0), (.c 2), (.c 0)] (by kernel_rfl) (by kernel_rfl)))
 (fun h => by_eq 7 1 h (fun h => lc_arg h [(.a 0), (.c 0), (.c 0), (.a 3), (.a 4), (.a 5), (.a 6), (.a 7), (.a 8), (.a 9), (.c 0), (.c 0), (.c 0), (.a 9), (.c 0), (.a 9)] (by kernel_rfl) (by kernel_rfl))
 (fun h => lc_arg h [(.a 0), (.c 0), (.c 0), (.a 3), (.a 4), (.a 5), (.a 6), (.a 7), (.a 8), (.a 9), (.c 0), (.c 0), (.c 0), (.a 9), (.c 0), (.a 9)] (by kernel_rfl) (by kernel_rfl))))
 (fun h => lc_arg h [(.c 0), (.c 0), (.c 0), (.c 0), (.c 0), (.c 0), (.c 0), (.c 0), (.c 0), (.c 0), (.c 0), (.c 2), (.c 2), (.c 0), (.c 2), (.c 0)] (by kernel_rfl) (by kernel_rfl))

theorem argQ_116 (val : Nat → Int) (h : Holds val [.ge (.a 6) 16, .ge (.a 6) 0, tI 5 5, tN 5 0, .le (.a 4) 15, .ge (.a 4) 0, tI 3 5, tN 3 8, tN 3 0, tI 9 32, tN 9 16, tN 9 8, tN 9 4, tN 9 2, tN 9 1, tN 9 0, .le (.a 8) 2147483647, .ge (.a 8) (-2147483648), tI 0 2, tN 0 1]) : ArgQ val := lc_arg h [(.c 0), (.c 0), (.c 0), (.c 0), (.c 0), (.c 0), (.c 0), (.c 0), (.c 0), (.c 0), (.c 0), (.c 2), (.c 2), (.c 0), (.c 2), (.c 0)] (by kernel_rfl) (by kernel_rfl)

theorem argQ_117 (val : Nat → Int) (h : Holds val [.le (.a 6) (-1), tI 5 5, tN 5 0, .le (.a 4) 15, .ge (.a 4) 0, tI 3 5, tN 3 8, tN 3 0, tI 9 32, tN 9 16, tN 9 8, tN 9 4, tN 9 2, tN 9 1, tN 9 0, .le (.a 8) 2147483647, .ge (.a 8) (-2147483648), tI 0 2, tN 0 1]) : ArgQ val := lc_arg h [(.c 0), (.c 0), (.c 0), (.c 0), (.c 0), (.c 0), (.c 0), (.c 0), (.c 0), (.c 0), (.c 0), (.c 2), (.c 2), (.c 0), (.c 2), (.c 0)] (by kernel_rfl) (by kernel_rfl)

theorem argQ_118 (val : Nat → Int) (h : Holds val [tN 5 5, tN 5 0, .le (.a 4) 15, .ge (.a 4) 0, tI 3 5, tN 3 8, tN 3 0, tI 9 32, tN 9 16, tN 9 8, tN 9 4, tN 9 2, tN 9 1, tN 9 0, .le (.a 8) 2147483647, .ge (.a 8) (-2147483648), tI 0 2, tN 0 1]) : ArgQ val := lc_arg h [(.c 0), (.c 0), (.c 0), (.c 0), (.c 0), (.c 0), (.c 0), (.c 0), (.c 0), (.c 0), (.c 0), (.c 2), (.c 2), (.c 0), (.c 2), (.c 0)] (by kernel_rfl) (by kernel_rfl)

theorem argQ_119 (val : Nat → Int) (h : Holds val [.ge (.a 4) 16, .ge (.a 4) 0, tI 3 5, tN 3 8, tN 3 0, tI 9 32, tN 9 16, tN 9 8, tN 9 4, tN 9 2, tN 9 1, tN 9 0, .le (.a 8) 2147483647, .ge (.a 8) (-2147483648), tI 0 2, tN 0 1]) : ArgQ val := lc_arg h [(.c 0), (.c 0), (.c 0), (.c 0), (.c 0), (.c 0), (.c 0), (.c 0), (.c 0), (.c 0), (.c 0), (.c 2), (.c 2), (.c 0), (.c 2), (.c 0)] (by kernel_rfl) (by kernel_rfl)

theorem argQ_120 (val : Nat → Int) (h : Holds val [.le (.a 4) (-1), tI 3 5, tN 3 8, tN 3 0, tI 9 32, tN 9 16, tN 9 8, tN 9 4, tN 9 2, tN 9 1, tN 9 0, .le (.a 8) 2147483647, .ge (.a 8) (-2147483648), tI 0 2, tN 0 1]) : ArgQ val := lc_arg h [(.c 0), (.c 0), (.c 0), (.c 0), (.c 0), (.c 0), (.c 0), (.c 0), (.c 0), (.c 0), (.c 0), (.c 2), (.c 2), (.c 0), (.c 2), (.c 0)] (by kernel_rfl) (by kernel_rfl)

theorem argQ_121 (val : Nat → Int) (h : Holds val [tN 3 5, tN 3 8, tN 3 0, tI 9 32, tN 9 16, tN 9 8, tN 9 4, tN 9 2, tN 9 1, tN 9 0, .le (.a 8) 2147483647, .ge (.a 8) (-2147483648), tI 0 2, tN 0 1]) : ArgQ val := lc_arg h [(.c 0), (.c 0), (.c 0), (.c 0), (.c 0), (.c 0), (.c 0), (.c 0), (.c 0), (.c 0), (.c 0), (.c 2), (.c 2), (.c 0), (.c 2), (.c 0)] (by kernel_rfl) (by kernel_rfl)

theorem argQ_122 (val : Nat → Int) (h : Holds val [tN 9 32, tN 9 16, tN 9 8, tN 9 4, tN 9 2, tN 9 1, tN 9 0, .le (.a 8) 2147483647, .ge (.a 8) (-2147483648), tI 0 2, tN 0 1]) : ArgQ val := lc_arg h [(.c 0), (.c 0), (.c 0), (.c 0), (.c 0), (.c 0), (.c 0), (.c 0), (.c 0), (.c 0), (.c 0), (.c 2), (.c 2), (.c 0), (.c 2), (.c 0)] (by kernel_rfl) (by kernel_rfl)

theorem argQ_123 (val : Nat → Int) (h : Holds val [tN 0 2, tN 0 1]) : ArgQ val := by_eq 0 3 h (fun h => lc_arg h [(.a 0), (.c 0), (.c 0), (.c 0), (.c 0), (.c 0), (.c 0), (.c 0), (.c 0), (.c 0), (.a 10), (.c 0), (.c 0), (.c 0), (.c 0), (.c 0)] (by kernel_rfl) (by kernel_rfl))
 (fun h => by_eq 0 4 h (fun h => by_way (.lt (.a 10) (.c (-2147483648))) (.le (.a 10) (-2147483649)) (.ge (.a 10) (-2147483648)) rfl rfl h (fun h => lc_arg h [(.c 0), (.c 0), (.c 0), (.c 0), (.c 0), (.c 0), (.c 0), (.c 0), (.c 0), (.c 0), (.c 0), (.c 5), (.c 5), (.c 0), (.c 2), (.c 0)] (by kernel_rfl) (by kernel_rfl))
 (fun h => by_way (.lt (.c 2147483647) (.a 10)) (.ge (.a 10) 2147483648) (.le (.a 10) 2147483647) rfl rfl h (fun h => lc_arg h [(.c 0), (.c 0), (.c 0), (.c 0), (.c 0), (.c 0), (.c 0), (.c 0), (.c 0), (.c 0), (.c 0), (.c 5), (.c 5), (.c 0), (.c 2), (.c 0)] (by kernel_rfl) (by kernel_rfl))
 (fun h => lc_arg h [(.a 0), (.c 0), (.c 0), (.c 0), (.c 0), (.c 0), (.c 0), (.c 0), (.c 0), (.c 0), (.a 10), (.c 0), (.c 0), (.c 0), (.c 0), (.c 0)] (by kernel_rfl) (by kernel_rfl))))
 (fun h => lc_arg h [(.c 0), (.c 0), (.c 0), (.c 0), (.c 0), (.c 0), (.c 0), (.c 0), (.c 0), (.c 0), (.c 0), (.c 2), (.c 2), (.c 0), (.c 2), (.c 0)] (by kernel_rfl) (by kernel_rfl)))

end Go.Proofs.Ytlggmhchgicjkaa.Tab
