/-
  Ways through the code, part 2.
-/
import Derived.Test.YtlggmhchgicjkaaArgH
namespace Go.Proofs.Ytlggmhchgicjkaa.Tab
open Go.Sim
set_option maxRecDepth 100000
set_option linter.unusedSimpArgs false
set_option maxHeartbeats 4000000

theorem argQ_50 (val : Nat → Int) (h : Holds val [tI 5 0, .le (.a 4) 15, .ge (.a 4) 0, tI 3 5, tN 3 8, tN 3 0, tI 9 2, tN 9 1, tN 9 0, .le (.a 8) 2147483647, .ge (.a 8) (-2147483648), tI 0 2, tN 0 1]) : ArgQ val := by_eq 6 0 h (fun h => by_eq 7 0 h (fun h => lc_arg h [(.a 0), (.c 0), (.c 0), (.a 3), (.a 4), (.a 5), (.a 6), (.a 7), (.a 8), (.a 9), (.c 0), (.c 0), (.c 0), (.a 9), (.c 0), (.a 9)] (by kernel_rfl) (by kernel_rfl))
 (fun h => lc_arg h [(.c 0), (.c 0), (.c 0), (.c 0), (.c 0), (.c 0), (.c 0), (.c 0), (.c 0), (.c 0), (.c 0), (.c 2), (.c 2), (.c 0), (.c 2), (.c 0)] (by kernel_rfl) (by kernel_rfl)))
 (fun h => lc_arg h [(.c 0), (.c 0), (.c 0), (.c 0), (.c 0), (.c 0), (.c 0), (.c 0), (.c 0), (.c 0), (.c 0), (.c 2), (.c 2), (.c 0), (.c 2), (.c 0)] (by kernel_rfl) (by kernel_rfl))

theorem argQ_51 (val : Nat → Int) (h : Holds val [.le (.a 6) 15, .ge (.a 6) 0, tI 5 5, tN 5 0, .le (.a 4) 15, .ge (.a 4) 0, tI 3 5, tN 3 8, tN 3 0, tI 9 2, tN 9 1, tN 9 0, .le (.a 8) 2147483647, .ge (.a 8) (-2147483648), tI 0 2, tN 0 1]) : ArgQ val := by_way (.or (.eq (.a 7) (.c 1)) (.or (.eq (.a 7) (.c 2)) (.or (.eq (.a 7) (.c 4)) (.or (.eq (.a 7) (.c 8)) .ff)))) (.at (.or (.eq (.a 7) (.c 1)) (.or (.eq (.a 7) (.c 2)) (.or (.eq (.a 7) (.c 4)) (.or (.eq (.a 7) (.c 8)) .ff)))) true) (.at (.or (.eq (.a 7) (.c 1)) (.or (.eq (.a 7) (.c 2)) (.or (.eq (.a 7) (.c 4)) (.or (.eq (.a 7) (.c 8)) .ff)))) false) rfl rfl h (fun h => by_eq 6 4 h (fun h => by_eq 7 1 h (fun h => by_eq 4 4 h (fun h => lc_arg h [(.c 0), (.c 0), (.c 0), (.c 0), (.c 0), (.c 0), (.c 0), (.c 0), (.c 0), (.c 0), (.c 0), (.c 2), (.c 2), (.c 0), (.c 2), (.c 0)] (by kernel_rfl) (by kernel_rfl))
 (fun h => lc_arg h [(.a 0), (.c 0), (.c 0), (.a 5), (.a 6), (.a 3), (.a 4), (.a 7), (.a 8), (.a 9), (.c 0), (.c 0), (.c 0), (.a 9), (.c 0), (.a 9)] (by kernel_rfl) (by kernel_rfl)))
 (fun h => lc_arg h [(.c 0), (.c 0), (.c 0), (.c 0), (.c 0), (.c 0), (.c 0), (.c 0), (.c 0), (.c 0), (.c 0), (.c 2), (.c 2), (.c 0), (.c 2), (.c 0)] (by kernel_rfl) (by kernel_rfl)))
 (fun h => by_eq 7 1 h (fun h => lc_arg h [(.a 0), (.c 0), (.c 0), (.a 3), (.a 4), (.a 5), (.a 6), (.a 7), (.a 8), (.a 9), (.c 0), (.c 0), (.c 0), (.a 9), (.c 0), (.a 9)] (by kernel_rfl) (by kernel_rfl))
 (fun h => lc_arg h [(.a 0), (.c 0), (.c 0), (.a 3), (.a 4), (.a 5), (.a 6), (.a 7), (.a 8), (.a 9), (.c 0), (.c 0), (.c 0), (.a 9), (.c 0), (.a 9)] (by kernel_rfl) (by kernel_rfl))))
 (fun h => lc_arg h [(.c 0), (.c 0), (.c 0), (.c 0), (.c 0), (.c 0), (.c 0), (.c 0), (.c 0), (.c 0), (.c 0), (.c 2), (.c 2), (.c 0), (.c 2), (.c 0)] (by kernel_rfl) (by kernel_rfl))

theorem argQ_52 (val : Nat → Int) (h : Holds val [.ge (.a 6) 16, .ge (.a 6) 0, tI 5 5, tN 5 0, .le (.a 4) 15, .ge (.a 4) 0, tI 3 5, tN 3 8, tN 3 0, tI 9 2, tN 9 1, tN 9 0, .le (.a 8) 2147483647, .ge (.a 8) (-2147483648), tI 0 2, tN 0 1]) : ArgQ val := lc_arg h [(.c 0), (.c 0), (.c 0), (.c 0), (.c 0), (.c 0), (.c 0), (.c 0), (.c 0), (.c 0), (.c 0), (.c 2), (.c 2), (.c 0), (.c 2), (.c 0)] (by kernel_rfl) (by kernel_rfl)

theorem argQ_53 (val : Nat → Int) (h : Holds val [.le (.a 6) (-1), tI 5 5, tN 5 0, .le (.a 4) 15, .ge (.a 4) 0, tI 3 5, tN 3 8, tN 3 0, tI 9 2, tN 9 1, tN 9 0, .le (.a 8) 2147483647, .ge (.a 8) (-2147483648), tI 0 2, tN 0 1]) : ArgQ val := lc_arg h [(.c 0), (.c 0), (.c 0), (.c 0), (.c 0), (.c 0), (.c 0), (.c 0), (.c 0), (.c 0), (.c 0), (.c 2), (.c 2), (.c 0), (.c 2), (.c 0)] (by kernel_rfl) (by kernel_rfl)

theorem argQ_54 (val : Nat → Int) (h : Holds val [tN 5 5, tN 5 0, .le (.a 4) 15, .ge (.a 4) 0, tI 3 5, tN 3 8, tN 3 0, tI 9 2, tN 9 1, tN 9 0, .le (.a 8) 2147483647, .ge (.a 8) (-2147483648), tI 0 2, tN 0 1]) : ArgQ val := lc_arg h [(.c 0), (.c 0), (.c 0), (.c 0), (.c 0), (.c 0), (.c 0), (.c 0), (.c 0), (.c 0), (.c 0), (.c 2), (.c 2), (.c 0), (.c 2), (.c 0)] (by kernel_rfl) (by kernel_rfl)

theorem argQ_55 (val : Nat → Int) (h : Holds val [.ge (.a 4) 16, .ge (.a 4) 0, tI 3 5, tN 3 8, tN 3 0, tI 9 2, tN 9 1, tN 9 0, .le (.a 8) 2147483647, .ge (.a 8) (-2147483648), tI 0 2, tN 0 1]) : ArgQ val := lc_arg h [(.c 0), (.c 0), (.c 0), (.c 0), (.c 0), (.c 0), (.c 0), (.c 0), (.c 0), (.c 0), (.c 0), (.c 2), (.c 2), (.c 0), (.c 2), (.c 0)] (by kernel_rfl) (by kernel_rfl)

theorem argQ_56 (val : Nat → Int) (h : Holds val [.le (.a 4) (-1), tI 3 5, tN 3 8, tN 3 0, tI 9 2, tN 9 1, tN 9 0, .le (.a 8) 2147483647, .ge (.a 8) (-2147483648), tI 0 2, tN 0 1]) : ArgQ val := lc_arg h [(.c 0), (.c 0), (.c 0), (.c 0), (.c 0), (.c 0), (.c 0), (.c 0), (.c 0), (.c 0), (.c 0), (.c 2), (.c 2), (.c 0), (.c 2), (.c 0)] (by kernel_rfl) (by kernel_rfl)

theorem argQ_57 (val : Nat → Int) (h : Holds val [tN 3 5, tN 3 8, tN 3 0, tI 9 2, tN 9 1, tN 9 0, .le (.a 8) 2147483647, .ge (.a 8) (-2147483648), tI 0 2, tN 0 1]) : ArgQ val := lc_arg h [(.c 0), (.c 0), (.c 0), (.c 0), (.c 0), (.c 0), (.c 0), (.c 0), (.c 0), (.c 0), (.c 0), (.c 2), (.c 2), (.c 0), (.c 2), (.c 0)] (by kernel_rfl) (by kernel_rfl)

theorem argQ_58 (val : Nat → Int) (h : Holds val [tI 5 0, tI 4 0, tI 3 0, tI 9 4, tN 9 2, tN 9 1, tN 9 0, .le (.a 8) 2147483647, .ge (.a 8) (-2147483648), tI 0 2, tN 0 1]) : ArgQ val := by_eq 6 0 h (fun h => by_eq 7 0 h (fun h => lc_arg h [(.a 0), (.c 0), (.c 0), (.a 3), (.a 4), (.a 5), (.a 6), (.a 7), (.a 8), (.a 9), (.c 0), (.c 0), (.c 0), (.a 9), (.c 0), (.a 9)] (by kernel_rfl) (by kernel_rfl))
 (fun h => lc_arg h [(.c 0), (.c 0), (.c 0), (.c 0), (.c 0), (.c 0), (.c 0), (.c 0), (.c 0), (.c 0), (.c 0), (.c 2), (.c 2), (.c 0), (.c 2), (.c 0)] (by kernel_rfl) (by kernel_rfl)))
 (fun h => lc_arg h [(.c 0), (.c 0), (.c 0), (.c 0), (.c 0), (.c 0), (.c 0), (.c 0), (.c 0), (.c 0), (.c 0), (.c 2), (.c 2), (.c 0), (.c 2), (.c 0)] (by kernel_rfl) (by kernel_rfl))

theorem argQ_59 (val : Nat → Int) (h : Holds val [.ge (.a 6) 0, tI 5 5, tN 5 0, tI 4 0, tI 3 0, tI 9 4, tN 9 2, tN 9 1, tN 9 0, .le (.a 8) 2147483647, .ge (.a 8) (-2147483648), tI 0 2, tN 0 1]) : ArgQ val := by_way (.lt (.a 6) (.c 16)) (.le (.a 6) 15) (.ge (.a 6) 16) rfl rfl h (fun h => by_way (.or (.eq (.a 7) (.c 1)) (.or (.eq (.a 7) (.c 2)) (.or (.eq (.a 7) (.c 4)) (.or (.eq (.a 7) (.c 8)) .ff)))) (.at (.or (.eq (.a 7) (.c 1)) (.or (.eq (.a 7) (.c 2)) (.or (.eq (.a 7) (.c 4)) (.or (.eq (.a 7) (.c 8)) .ff)))) true) (.at (.or (.eq (.a 7) (.c 1)) (.or (.eq (.a 7) (.c 2)) (.or (.eq (.a 7) (.c 4)) (.or (.eq (.a 7) (.c 8)) .ff)))) false) rfl rfl h (fun h => by_eq 6 4 h (fun h => by_eq 7 1 h (fun h => lc_arg h [(.a 0), (.c 0), (.c 0), (.a 5), (.a 6), (.c 0), (.c 0), (.c 0), (.a 8), (.a 9), (.c 0), (.c 0), (.c 0), (.a 9), (.c 0), (.a 9)] (by kernel_rfl) (by kernel_rfl))
 (fun h => lc_arg h [(.c 0), (.c 0), (.c 0), (.c 0), (.c 0), (.c 0), (.c 0), (.c 0), (.c 0), (.c 0), (.c 0), (.c 2), (.c 2), (.c 0), (.c 2), (.c 0)] (by kernel_rfl) (by kernel_rfl)))
 (fun h => by_eq 7 1 h (fun h => lc_arg h [(.a 0), (.c 0), (.c 0), (.a 5), (.a 6), (.c 0), (.c 0), (.c 0), (.a 8), (.a 9), (.c 0), (.c 0), (.c 0), (.a 9), (.c 0), (.a 9)] (by kernel_rfl) (by kernel_rfl))
 (fun h => lc_arg h [(.a 0), (.c 0), (.c 0), (.a 3), (.a 4), (.a 5), (.a 6), (.a 7), (.a 8), (.a 9), (.c 0), (.c 0), (.c 0), (.a 9), (.c 0), (.a 9)] (by kernel_rfl) (by kernel_rfl))))
 (fun h => lc_arg h [(.c 0), (.c 0), (.c 0), (.c 0), (.c 0), (.c 0), (.c 0), (.c 0), (.c 0), (.c 0), (.c 0), (.c 2), (.c 2), (.c 0), (.c 2), (.c 0)] (by kernel_rfl) (by kernel_rfl)))
 (fun h => lc_arg h [(.c 0), (.c 0), (.c 0), (.c 0), (.c 0), (.c 0), (.c 0), (.c 0), (.c 0), (.c 0), (.c 0), (.c 2), (.c 2), (.c 0), (.c 2), (.c 0)] (by kernel_rfl) (by kernel_rfl))

theorem argQ_60 (val : Nat → Int) (h : Holds val [.le (.a 6) (-1), tI 5 5, tN 5 0, tI 4 0, tI 3 0, tI 9 4, tN 9 2, tN 9 1, tN 9 0, .le (.a 8) 2147483647, .ge (.a 8) (-2147483648), tI 0 2, tN 0 1]) : ArgQ val := lc_arg h [(.c 0), (.c 0), (.c 0), (.c 0), (.c 0), (.c 0), (.c 0), (.c 0), (.c 0), (.c 0), (.c 0), (.c 2), (.c 2), (.c 0), (.c 2), (.c 0)] (by kernel_rfl) (by kernel_rfl)

theorem argQ_61 (val : Nat → Int) (h : Holds val [tN 5 5, tN 5 0, tI 4 0, tI 3 0, tI 9 4, tN 9 2, tN 9 1, tN 9 0, .le (.a 8) 2147483647, .ge (.a 8) (-2147483648), tI 0 2, tN 0 1]) : ArgQ val := lc_arg h [(.c 0), (.c 0), (.c 0), (.c 0), (.c 0), (.c 0), (.c 0), (.c 0), (.c 0), (.c 0), (.c 0), (.c 2), (.c 2), (.c 0), (.c 2), (.c 0)] (by kernel_rfl) (by kernel_rfl)

theorem argQ_62 (val : Nat → Int) (h : Holds val [tN 4 0, tI 3 0, tI 9 4, tN 9 2, tN 9 1, tN 9 0, .le (.a 8) 2147483647, .ge (.a 8) (-2147483648), tI 0 2, tN 0 1]) : ArgQ val := lc_arg h [(.c 0), (.c 0), (.c 0), (.c 0), (.c 0), (.c 0), (.c 0), (.c 0), (.c 0), (.c 0), (.c 0), (.c 2), (.c 2), (.c 0), (.c 2), (.c 0)] (by kernel_rfl) (by kernel_rfl)

theorem argQ_63 (val : Nat → Int) (h : Holds val [tI 5 0, tI 4 0, tI 3 8, tN 3 0, tI 9 4, tN 9 2, tN 9 1, tN 9 0, .le (.a 8) 2147483647, .ge (.a 8) (-2147483648), tI 0 2, tN 0 1]) : ArgQ val := by_eq 6 0 h (fun h => by_eq 7 0 h (fun h => lc_arg h [(.a 0), (.c 0), (.c 0), (.a 3), (.a 4), (.a 5), (.a 6), (.a 7), (.a 8), (.a 9), (.c 0), (.c 0), (.c 0), (.a 9), (.c 0), (.a 9)] (by kernel_rfl) (by kernel_rfl))
 (fun h => lc_arg h [(.c 0), (.c 0), (.c 0), (.c 0), (.c 0), (.c 0), (.c 0), (.c 0), (.c 0), (.c 0), (.c 0), (.c 2), (.c 2), (.c 0), (.c 2), (.c 0)] (by kernel_rfl) (by kernel_rfl)))
 (fun h => lc_arg h [(.c 0), (.c 0), (.c 0), (.c 0), (.c 0), (.c 0), (.c 0), (.c 0), (.c 0), (.c 0), (.c 0), (.c 2), (.c 2), (.c 0), (.c 2), (.c 0)] (by kernel_rfl) (by kernel_rfl))

theorem argQ_64 (val : Nat → Int) (h : Holds val [tN 5 0, tI 4 0, tI 3 8, tN 3 0, tI 9 4, tN 9 2, tN 9 1, tN 9 0, .le (.a 8) 2147483647, .ge (.a 8) (-2147483648), tI 0 2, tN 0 1]) : ArgQ val := by_eq 5 5 h (fun h => by_way (.le (.c 0) (.a 6)) (.ge (.a 6) 0) (.le (.a 6) (-1)) rfl rfl h (fun h => by_way (.lt (.a 6) (.c 16)) (.le (.a 6) 15) (.ge (.a 6) 16) rfl rfl h (fun h => by_way (.or (.eq (.a 7) (.c 1)) (.or (.eq (.a 7) (.c 2)) (.or (.eq (.a 7) (.c 4)) (.or (.eq (.a 7) (.c 8)) .ff)))) (.at (.or (.eq (.a 7) (.c 1)) (.or (.eq (.a 7) (.c 2)) (.or (.eq (.a 7) (.c 4)) (.or (.eq (.a 7) (.c 8)) .ff)))) true) (.at (.or (.eq (.a 7) (.c 1)) (.or (.eq (.a 7) (.c 2)) (.or (.eq (.a 7) (.c 4)) (.or (.eq (.a 7) (.c 8)) .ff)))) false) rfl rfl h (fun h => lc_arg h [(.c 0), (.c 0), (.c 0), (.c 0), (.c 0), (.c 0), (.c 0), (.c 0), (.c 0), (.c 0), (.c 0), (.c 2), (.c 2), (.c 0), (.c 2), (.c 0)] (by kernel_rfl) (by kernel_rfl))
 (fun h => lc_arg h [(.c 0), (.c 0), (.c 0), (.c 0), (.c 0), (.c 0), (.c 0), (.c 0), (.c 0), (.c 0), (.c 0), (.c 2), (.c 2), (.c 0), (.c 2), (.c 0)] (by kernel_rfl) (by kernel_rfl)))
 (fun h => lc_arg h [(.c 0), (.c 0), (.c 0), (.c 0), (.c 0), (.c 0), (.c 0), (.c 0), (.c 0), (.c 0), (.c 0), (.c 2), (.c 2), (.c 0), (.c 2), (.c 0)] (by kernel_rfl) (by kernel_rfl)))
 (fun h => lc_arg h [(.c 0), (.c 0), (.c 0), (.c 0), (.c 0), (.c 0), (.c 0), (.c 0), (.c 0), (.c 0), (.c 0), (.c 2), (.c 2), (.c 0), (.c 2), (.c 0)] (by kernel_rfl) (by kernel_rfl)))
 (fun h => lc_arg h [(.c 0), (.c 0), (.c 0), (.c 0), (.c 0), (.c 0), (.c 0), (.c 0), (.c 0), (.c 0), (.c 0), (.c 2), (.c 2), (.c 0), (.c 2), (.c 0)] (by kernel_rfl) (by kernel_rfl))

theorem argQ_65 (val : Nat → Int) (h : Holds val [tN 4 0, tI 3 8, tN 3 0, tI 9 4, tN 9 2, tN 9 1, tN 9 0, .le (.a 8) 2147483647, .ge (.a 8) (-2147483648), tI 0 2, tN 0 1]) : ArgQ val := lc_arg h [(.c 0), (.c 0), (.c 0), (.c 0), (.c 0), (.c 0), (.c 0), (.c 0), (.c 0), (.c 0), (.c 0), (.c 2), (.c 2), (.c 0), (.c 2), (.c 0)] (by kernel_rfl) (by kernel_rfl)

theorem argQ_66 (val : Nat → Int) (h : Holds val [tI 5 0, .le (.a 4) 15, .ge (.a 4) 0, tI 3 5, tN 3 8, tN 3 0, tI 9 4, tN 9 2, tN 9 1, tN 9 0, .le (.a 8) 2147483647, .ge (.a 8) (-2147483648), tI 0 2, tN 0 1]) : ArgQ val := by_eq 6 0 h (fun h => by_eq 7 0 h (fun h => lc_arg h [(.a 0), (.c 0), (.c 0), (.a 3), (.a 4), (.a 5), (.a 6), (.a 7), (.a 8), (.a 9), (.c 0), (.c 0), (.c 0), (.a 9), (.c 0), (.a 9)] (by kernel_rfl) (by kernel_rfl))
 (fun h => lc_arg h [(.c 0), (.c 0), (.c 0), (.c 0), (.c 0), (.c 0), (.c 0), (.c 0), (.c 0), (.c 0), (.c 0), (.c 2), (.c 2), (.c 0), (.c 2), (.c 0)] (by kernel_rfl) (by kernel_rfl)))
 (fun h => lc_arg h [(.c 0), (.c 0), (.c 0), (.c 0), (.c 0), (.c 0), (.c 0), (.c 0), (.c 0), (.c 0), (.c 0), (.c 2), (.c 2), (.c 0), (.c 2), (.c 0)] (by kernel_rfl) (by kernel_rfl))

theorem argQ_67 (val : Nat → Int) (h : Holds val [.le (.a 6) 15, .ge (.a 6) 0, tI 5 5, tN 5 0, .le (.a 4) 15, .ge (.a 4) 0, tI 3 5, tN 3 8, tN 3 0, tI 9 4, tN 9 2, tN 9 1, tN 9 0, .le (.a 8) 2147483647, .ge (.a 8) (-2147483648), tI 0 2, tN 0 1]) : ArgQ val := by_way (.or (.eq (.a 7) (.c 1)) (.or (.eq (.a 7) (.c 2)) (.or (.eq (.a 7) (.c 4)) (.or (.eq (.a 7) (.c 8)) .ff)))) (.at (.or (.eq (.a 7) (.c 1)) (.or (.eq (.a 7) (.c 2)) (.or (.eq (.a 7) (.c 4)) (.or (.eq (.a 7) (.c 8)) .ff)))) true) (.at (.or (.eq (.a 7) (.c 1)) (.or (.eq (.a 7) (.c 2)) (.or (.eq (.a 7) (.c 4)) (.or (.eq (.a 7) (.c 8)) .ff)))) false) rfl rfl h (fun h => by_eq 6 4 h (fun h => by_eq 7 1 h (fun h => by_eq 4 4 h (fun h => lc_arg h [(.c 0), (.c 0), (.c 0), (.c 0), (.c 0), (.c 0), (.c 0), (.c 0), (.c 0), (.c 0), (.c 0), (.c 2), (.c 2), (.c 0), (.c 2), (.c 0)] (by kernel_rfl) (by kernel_rfl))
 (fun h => lc_arg h [(.a 0), (.c 0), (.c 0), (.a 5), (.a 6), (.a 3), (.a 4), (.a 7), (.a 8), (.a 9), (.c 0), (.c 0), (.c 0), (.a 9), (.c 0), (.a 9)] (by kernel_rfl) (by kernel_rfl)))
 (fun h => lc_arg h [(.c 0), (.c 0), (.c 0), (.c 0), (.c 0), (.c 0), (.c 0), (.c 0), (.c 0), (.c 0), (.c 0), (.c 2), (.c 2), (.c 0), (.c 2), (.c 0)] (by kernel_rfl) (by kernel_rfl)))
 (fun h => by_eq 7 1 h (fun h => lc_arg h [(.a 0), (.c 0), (.c 0), (.a 3), (.a 4), (.a 5), (.a 6), (.a 7), (.a 8), (.a 9), (.c 0), (.c 0), (.c 0), (.a 9), (.c 0), (.a 9)] (by kernel_rfl) (by kernel_rfl))
 (fun h => lc_arg h [(.a 0), (.c 0), (.c 0), (.a 3), (.a 4), (.a 5), (.a 6), (.a 7), (.a 8), (.a 9), (.c 0), (.c 0), (.c 0), (.a 9), (.c 0), (.a 9)] (by kernel_rfl) (by kernel_rfl))))
 (fun h => lc_arg h [(.c 0), (.c 0), (.c 0), (.c 0), (.c 0), (.c 0), (.c 0), (.c 0), (.c 0), (.c 0), (.c 0), (.c 2), (.c 2), (.c 0), (.c 2), (.c 0)] (by kernel_rfl) (by kernel_rfl))

theorem argQ_68 (val : Nat → Int) (h : Holds val [.ge (.a 6) 16, .ge (.a 6) 0, tI 5 5, tN 5 0, .le (.a 4) 15, .ge (.a 4) 0, tI 3 5, tN 3 8, tN 3 0, tI 9 4, tN 9 2, tN 9 1, tN 9 0, .le (.a 8) 2147483647, .ge (.a 8) (-2147483648), tI 0 2, tN 0 1]) : ArgQ val := lc_arg h [(.c 0), (.c 0), (.c 0), (.c 0), (.c 0), (.c 0), (.c 0), (.c 0), (.c 0), (.c 0), (.c 0), (.c 2), (.c 2), (.c 0), (.c 2), (.c 0)] (by kernel_rfl) (by kernel_rfl)

theorem argQ_69 (val : Nat → Int) (h : Holds val [.le (.a 6) (-1), tI 5 5, tN 5 0, .le (.a 4) 15, .ge (.a 4) 0, tI 3 5, tN 3 8, tN 3 0, tI 9 4, tN 9 2, tN 9 1, tN 9 0, .le (.a 8) 2147483647, .ge (.a 8) (-2147483648), tI 0 2, tN 0 1]) : ArgQ val := lc_arg h [(.c 0), (.c 0), (.c 0), (.c 0), (.c 0), (.c 0), (.c 0), (.c 0), (.c 0), (.c 0), (.c 0), (.c 2), (.c 2), (.c 0), (.c 2), (.c 0)] (by kernel_rfl) (by kernel_rfl)

theorem argQ_70 (val : Nat → Int) (h : Holds val [tN 5 5, tN 5 0, .le (.a 4) 15, .ge (.a 4) 0, tI 3 5, tN 3 8, tN 3 0, tI 9 4, tN 9 2, tN 9 1, tN 9 0, .le (.a 8) 2147483647, .ge (.a 8) (-2147483648), tI 0 2, tN 0 1]) : ArgQ val := lc_arg h [(.c 0), (.c 0), (.c 0), (.c 0), (.c 0), (.c 0), (.c 0), (.c 0), (.c 0), (.c 0), (.c 0), (.c 2), (.c 2), (.c 0), (.c 2), (.c 0)] (by kernel_rfl) (by kernel_rfl)

theorem argQ_71 (val : Nat → Int) (h : Holds val [.ge (.a 4) 16, .ge (.a 4) 0, tI 3 5, tN 3 8, tN 3 0, tI 9 4, tN 9 2, tN 9 1, tN 9 0, .le (.a 8) 2147483647, .ge (.a 8) (-2147483648), tI 0 2, tN 0 1]) : ArgQ val := lc_arg h [(.c 0), (.c 0), (.c 0), (.c 0), (.c 0), (.c 0), (.c 0), (.c 0), (.c 0), (.c 0), (.c 0), (.c 2), (.c 2), (.c 0), (.c 2), (.c 0)] (by kernel_rfl) (by kernel_rfl)

theorem argQ_72 (val : Nat → Int) (h : Holds val [.le (.a 4) (-1), tI 3 5, tN 3 8, tN 3 0, tI 9 4, tN 9 2, tN 9 1, tN 9 0, .le (.a 8) 2147483647, .ge (.a 8) (-2147483648), tI 0 2, tN 0 1]) : ArgQ val := lc_arg h [(.c 0), (.c 0), (.c 0), (.c 0), (.c 0), (.c 0), (.c 0), (.c 0), (.c 0), (.c 0), (.c 0), (.c 2), (.c 2), (.c 0), (.c 2), (.c 0)] (by kernel_rfl) (by kernel_rfl)

theorem argQ_73 (val : Nat → Int) (h : Holds val [tN 3 5, tN 3 8, tN 3 0, tI 9 4, tN 9 2, tN 9 1, tN 9 0, .le (.a 8) 2147483647, .ge (.a 8) (-2147483648), tI 0 2, tN 0 1]) : ArgQ val := lc_arg h [(.c 0), (.c 0), (.c 0), (.c 0), (.c 0), (.c 0), (.c 0), (.c 0), (.c 0), (.c 0), (.c 0), (.c 2), (.c 2), (.c 0), (.c 2), (.c 0)] (by kernel_rfl) (by kernel_rfl)

theorem argQ_74 (val : Nat → Int) (h : Holds val [tI 5 0, tI 4 0, tI 3 0, tI 9 8, tN 9 4, tN 9 2, tN 9 1, tN 9 0, .le (.a 8) 2147483647, .ge (.a 8) (-2147483648), tI 0 2, tN 0 1]) : ArgQ val := by_eq 6 0 h (fun h => by_eq 7 0 h (fun h => lc_arg h [(.a 0), (.c 0), (.c 0), (.a 3), (.a 4), (.a 5), (.a 6), (.a 7), (.a 8), (.a 9), (.c 0), (.c 0), (.c 0), (.a 9), (.c 0), (.a 9)] (by kernel_rfl) (by kernel_rfl))
 (fun h => lc_arg h [(.c 0), (.c 0), (.c 0), (.c 0), (.c 0), (.c 0), (.c 0), (.c 0), (.c 0), (.c 0), (.c 0), (.c 2), (.c 2), (.c 0), (.c 2), (.c 0)] (by kernel_rfl) (by kernel_rfl)))
 (fun h => lc_arg h [(.c 0), (.c 0), (.c 0), (.c 0), (.c 0), (.c 0), (.c 0), (.c 0), (.c 0), (.c 0), (.c 0), (.c 2), (.c 2), (.c 0), (.c 2), (.c 0)] (by kernel_rfl) (by kernel_rfl))

end Go.Proofs.Ytlggmhchgicjkaa.Tab
