/-
  Ways through the code, part 0.
-/
import Derived.Test.YtlggmhchgicjkaaShpH
namespace Go.Proofs.Ytlggmhchgicjkaa.Tab
open Go.Sim
set_option maxRecDepth 100000
set_option linter.unusedSimpArgs false
set_option maxHeartbeats 4000000

theorem check_0 (val : Nat → Int) (h : Holds val [.le (.a 21) (-1), tI 614 1, .ge (.a 11) 0, .ge (.a 13) 0, .at (.le (.a 11) (.a 12)) true, .at (.le (.a 13) (.a 14)) true, .le (.a 11) 4, .le (.a 13) 4]) : Check val := lcG s_check h [(.c 5)] (by kernel_rfl) (fun _ _ _ => by kernel_rfl)

theorem check_1 (val : Nat → Int) (h : Holds val [.ge (.a 21) 6, .ge (.a 21) 0, tI 614 1, .ge (.a 11) 0, .ge (.a 13) 0, .at (.le (.a 11) (.a 12)) true, .at (.le (.a 13) (.a 14)) true, .le (.a 11) 4, .le (.a 13) 4]) : Check val := lcG s_check h [(.c 5)] (by kernel_rfl) (fun _ _ _ => by kernel_rfl)

theorem check_2 (val : Nat → Int) (h : Holds val [.le (.a 22) (-1), .le (.a 21) 5, .ge (.a 21) 0, tI 614 1, .ge (.a 11) 0, .ge (.a 13) 0, .at (.le (.a 11) (.a 12)) true, .at (.le (.a 13) (.a 14)) true, .le (.a 11) 4, .le (.a 13) 4]) : Check val := lcG s_check h [(.c 5)] (by kernel_rfl) (fun _ _ _ => by kernel_rfl)

theorem check_3 (val : Nat → Int) (h : Holds val [.ge (.a 22) 4, .ge (.a 22) 0, .le (.a 21) 5, .ge (.a 21) 0, tI 614 1, .ge (.a 11) 0, .ge (.a 13) 0, .at (.le (.a 11) (.a 12)) true, .at (.le (.a 13) (.a 14)) true, .le (.a 11) 4, .le (.a 13) 4]) : Check val := lcG s_check h [(.c 5)] (by kernel_rfl) (fun _ _ _ => by kernel_rfl)

theorem check_4 (val : Nat → Int) (h : Holds val [.le (.a 23) (-1), .le (.a 22) 3, .ge (.a 22) 0, .le (.a 21) 5, .ge (.a 21) 0, tI 614 1, .ge (.a 11) 0, .ge (.a 13) 0, .at (.le (.a 11) (.a 12)) true, .at (.le (.a 13) (.a 14)) true, .le (.a 11) 4, .le (.a 13) 4]) : Check val := lcG s_check h [(.c 5)] (by kernel_rfl) (fun _ _ _ => by kernel_rfl)

theorem check_5 (val : Nat → Int) (h : Holds val [.ge (.a 23) 256, .ge (.a 23) 0, .le (.a 22) 3, .ge (.a 22) 0, .le (.a 21) 5, .ge (.a 21) 0, tI 614 1, .ge (.a 11) 0, .ge (.a 13) 0, .at (.le (.a 11) (.a 12)) true, .at (.le (.a 13) (.a 14)) true, .le (.a 11) 4, .le (.a 13) 4]) : Check val := lcG s_check h [(.c 5)] (by kernel_rfl) (fun _ _ _ => by kernel_rfl)

theorem check_6 (val : Nat → Int) (h : Holds val [.le (.a 24) (-2), .le (.a 23) 255, .ge (.a 23) 0, .le (.a 22) 3, .ge (.a 22) 0, .le (.a 21) 5, .ge (.a 21) 0, tI 614 1, .ge (.a 11) 0, .ge (.a 13) 0, .at (.le (.a 11) (.a 12)) true, .at (.le (.a 13) (.a 14)) true, .le (.a 11) 4, .le (.a 13) 4]) : Check val := lcG s_check h [(.c 5)] (by kernel_rfl) (fun _ _ _ => by kernel_rfl)

theorem check_7 (val : Nat → Int) (h : Holds val [.ge (.a 24) 8, .ge (.a 24) (-1), .le (.a 23) 255, .ge (.a 23) 0, .le (.a 22) 3, .ge (.a 22) 0, .le (.a 21) 5, .ge (.a 21) 0, tI 614 1, .ge (.a 11) 0, .ge (.a 13) 0, .at (.le (.a 11) (.a 12)) true, .at (.le (.a 13) (.a 14)) true, .le (.a 11) 4, .le (.a 13) 4]) : Check val := lcG s_check h [(.c 5)] (by kernel_rfl) (fun _ _ _ => by kernel_rfl)

theorem check_8 (val : Nat → Int) (h : Holds val [tI 22 0, .ge (.a 602) 0, .ge (.a 601) 0, .is (.and .i64 (.a 23) (.c 7)) 0, .ge (.a 604) 0, .le (.a 24) 7, .ge (.a 24) (-1), .le (.a 23) 255, .ge (.a 23) 0, .le (.a 22) 3, .ge (.a 22) 0, .le (.a 21) 5, .ge (.a 21) 0, tI 614 1, .ge (.a 11) 0, .ge (.a 13) 0, .at (.le (.a 11) (.a 12)) true, .at (.le (.a 13) (.a 14)) true, .le (.a 11) 4, .le (.a 13) 4]) : Check val := by_e2 11 13 h (fun h => by_eq 610 1 h (fun h => by_eq 611 1 h (fun h => by_eq 612 1 h (fun h => lcG s_check h [(.c 2)] (by kernel_rfl) (fun _ _ _ => by kernel_rfl))
 (fun h => lcG s_check h [(.c 2)] (by kernel_rfl) (fun _ _ _ => by kernel_rfl)))
 (fun h => lcG s_check h [(.c 2)] (by kernel_rfl) (fun _ _ _ => by kernel_rfl)))
 (fun h => lcG s_check h [(.c 2)] (by kernel_rfl) (fun _ _ _ => by kernel_rfl)))
 (fun h => lcG s_check h [(.c 2)] (by kernel_rfl) (fun _ _ _ => by kernel_rfl))

theorem check_9 (val : Nat → Int) (h : Holds val [tN 22 0, .ge (.a 602) 0, .ge (.a 601) 0, .is (.and .i64 (.a 23) (.c 7)) 0, .ge (.a 604) 0, .le (.a 24) 7, .ge (.a 24) (-1), .le (.a 23) 255, .ge (.a 23) 0, .le (.a 22) 3, .ge (.a 22) 0, .le (.a 21) 5, .ge (.a 21) 0, tI 614 1, .ge (.a 11) 0, .ge (.a 13) 0, .at (.le (.a 11) (.a 12)) true, .at (.le (.a 13) (.a 14)) true, .le (.a 11) 4, .le (.a 13) 4]) : Check val := by_e2 11 13 h (fun h => by_eq 610 1 h (fun h => by_eq 611 1 h (fun h => by_eq 612 1 h (fun h => lcG s_check h [(.c 2)] (by kernel_rfl) (fun _ _ _ => by kernel_rfl))
 (fun h => lcG s_check h [(.c 2)] (by kernel_rfl) (fun _ _ _ => by kernel_rfl)))
 (fun h => lcG s_check h [(.c 2)] (by kernel_rfl) (fun _ _ _ => by kernel_rfl)))
 (fun h => lcG s_check h [(.c 2)] (by kernel_rfl) (fun _ _ _ => by kernel_rfl)))
 (fun h => lcG s_check h [(.c 2)] (by kernel_rfl) (fun _ _ _ => by kernel_rfl))

theorem check_10 (val : Nat → Int) (h : Holds val [tI 22 0, .le (.a 602) (-1), .ge (.a 601) 0, .is (.and .i64 (.a 23) (.c 7)) 0, .ge (.a 604) 0, .le (.a 24) 7, .ge (.a 24) (-1), .le (.a 23) 255, .ge (.a 23) 0, .le (.a 22) 3, .ge (.a 22) 0, .le (.a 21) 5, .ge (.a 21) 0, tI 614 1, .ge (.a 11) 0, .ge (.a 13) 0, .at (.le (.a 11) (.a 12)) true, .at (.le (.a 13) (.a 14)) true, .le (.a 11) 4, .le (.a 13) 4]) : Check val := by_e2 11 13 h (fun h => by_eq 610 1 h (fun h => by_eq 611 1 h (fun h => by_eq 612 1 h (fun h => lcG s_check h [(.c 2)] (by kernel_rfl) (fun _ _ _ => by kernel_rfl))
 (fun h => lcG s_check h [(.c 2)] (by kernel_rfl) (fun _ _ _ => by kernel_rfl)))
 (fun h => lcG s_check h [(.c 2)] (by kernel_rfl) (fun _ _ _ => by kernel_rfl)))
 (fun h => lcG s_check h [(.c 2)] (by kernel_rfl) (fun _ _ _ => by kernel_rfl)))
 (fun h => lcG s_check h [(.c 2)] (by kernel_rfl) (fun _ _ _ => by kernel_rfl))

theorem check_11 (val : Nat → Int) (h : Holds val [tN 22 0, .le (.a 602) (-1), .ge (.a 601) 0, .is (.and .i64 (.a 23) (.c 7)) 0, .ge (.a 604) 0, .le (.a 24) 7, .ge (.a 24) (-1), .le (.a 23) 255, .ge (.a 23) 0, .le (.a 22) 3, .ge (.a 22) 0, .le (.a 21) 5, .ge (.a 21) 0, tI 614 1, .ge (.a 11) 0, .ge (.a 13) 0, .at (.le (.a 11) (.a 12)) true, .at (.le (.a 13) (.a 14)) true, .le (.a 11) 4, .le (.a 13) 4]) : Check val := by_e2 11 13 h (fun h => by_eq 610 1 h (fun h => by_eq 611 1 h (fun h => by_eq 612 1 h (fun h => lcG s_check h [(.c 2)] (by kernel_rfl) (fun _ _ _ => by kernel_rfl))
 (fun h => lcG s_check h [(.c 2)] (by kernel_rfl) (fun _ _ _ => by kernel_rfl)))
 (fun h => lcG s_check h [(.c 2)] (by kernel_rfl) (fun _ _ _ => by kernel_rfl)))
 (fun h => lcG s_check h [(.c 2)] (by kernel_rfl) (fun _ _ _ => by kernel_rfl)))
 (fun h => lcG s_check h [(.c 2)] (by kernel_rfl) (fun _ _ _ => by kernel_rfl))

theorem check_12 (val : Nat → Int) (h : Holds val [tI 22 0, .ge (.a 602) 0, .le (.a 601) (-1), .is (.and .i64 (.a 23) (.c 7)) 0, .ge (.a 604) 0, .le (.a 24) 7, .ge (.a 24) (-1), .le (.a 23) 255, .ge (.a 23) 0, .le (.a 22) 3, .ge (.a 22) 0, .le (.a 21) 5, .ge (.a 21) 0, tI 614 1, .ge (.a 11) 0, .ge (.a 13) 0, .at (.le (.a 11) (.a 12)) true, .at (.le (.a 13) (.a 14)) true, .le (.a 11) 4, .le (.a 13) 4]) : Check val := by_e2 11 13 h (fun h => by_eq 610 1 h (fun h => by_eq 611 1 h (fun h => by_eq 612 1 h (fun h => lcG s_check h [(.c 2)] (by kernel_rfl) (fun _ _ _ => by kernel_rfl))
 (fun h => lcG s_check h [(.c 2)] (by kernel_rfl) (fun _ _ _ => by kernel_rfl)))
 (fun h => lcG s_check h [(.c 2)] (by kernel_rfl) (fun _ _ _ => by kernel_rfl)))
 (fun h => lcG s_check h [(.c 2)] (by kernel_rfl) (fun _ _ _ => by kernel_rfl)))
 (fun h => lcG s_check h [(.c 2)] (by kernel_rfl) (fun _ _ _ => by kernel_rfl))

theorem check_13 (val : Nat → Int) (h : Holds val [tN 22 0, .ge (.a 602) 0, .le (.a 601) (-1), .is (.and .i64 (.a 23) (.c 7)) 0, .ge (.a 604) 0, .le (.a 24) 7, .ge (.a 24) (-1), .le (.a 23) 255, .ge (.a 23) 0, .le (.a 22) 3, .ge (.a 22) 0, .le (.a 21) 5, .ge (.a 21) 0, tI 614 1, .ge (.a 11) 0, .ge (.a 13) 0, .at (.le (.a 11) (.a 12)) true, .at (.le (.a 13) (.a 14)) true, .le (.a 11) 4, .le (.a 13) 4]) : Check val := by_e2 11 13 h (fun h => by_eq 610 1 h (fun h => by_eq 611 1 h (fun h => by_eq 612 1 h (fun h => lcG s_check h [(.c 2)] (by kernel_rfl) (fun _ _ _ => by kernel_rfl))
 (fun h => lcG s_check h [(.c 2)] (by kernel_rfl) (fun _ _ _ => by kernel_rfl)))
 (fun h => lcG s_check h [(.c 2)] (by kernel_rfl) (fun _ _ _ => by kernel_rfl)))
 (fun h => lcG s_check h [(.c 2)] (by kernel_rfl) (fun _ _ _ => by kernel_rfl)))
 (fun h => lcG s_check h [(.c 2)] (by kernel_rfl) (fun _ _ _ => by kernel_rfl))

theorem check_14 (val : Nat → Int) (h : Holds val [tI 22 0, .le (.a 602) (-1), .le (.a 601) (-1), .is (.and .i64 (.a 23) (.c 7)) 0, .ge (.a 604) 0, .le (.a 24) 7, .ge (.a 24) (-1), .le (.a 23) 255, .ge (.a 23) 0, .le (.a 22) 3, .ge (.a 22) 0, .le (.a 21) 5, .ge (.a 21) 0, tI 614 1, .ge (.a 11) 0, .ge (.a 13) 0, .at (.le (.a 11) (.a 12)) true, .at (.le (.a 13) (.a 14)) true, .le (.a 11) 4, .le (.a 13) 4]) : Check val := by_e2 11 13 h (fun h => by_eq 610 1 h (fun h => by_eq 611 1 h (fun h => by_eq 612 1 h (fun h => by_way (.le (.c 0) (.a 24)) (.ge (.a 24) 0) (.le (.a 24) (-1)) rfl rfl h (fun h => lcG s_check h [(.c 2)] (by kernel_rfl) (fun _ _ _ => by kernel_rfl))
 (fun h => by_eq 613 1 h (fun h => lcG s_check h [(.c 2)] (by kernel_rfl) (fun _ _ _ => by kernel_rfl))
 (fun h => lcG s_check h [(.c 0)] (by kernel_rfl) (fun _ _ _ => by kernel_rfl))))
 (fun h => lcG s_check h [(.c 2)] (by kernel_rfl) (fun _ _ _ => by kernel_rfl)))
 (fun h => lcG s_check h [(.c 2)] (by kernel_rfl) (fun _ _ _ => by kernel_rfl)))
 (fun h => lcG s_check h [(.c 2)] (by kernel_rfl) (fun _ _ _ => by kernel_rfl)))
 (fun h => lcG s_check h [(.c 2)] (by kernel_rfl) (fun _ _ _ => by kernel_rfl))

theorem check_15 (val : Nat → Int) (h : Holds val [tN 22 0, .le (.a 602) (-1), .le (.a 601) (-1), .is (.and .i64 (.a 23) (.c 7)) 0, .ge (.a 604) 0, .le (.a 24) 7, .ge (.a 24) (-1), .le (.a 23) 255, .ge (.a 23) 0, .le (.a 22) 3, .ge (.a 22) 0, .le (.a 21) 5, .ge (.a 21) 0, tI 614 1, .ge (.a 11) 0, .ge (.a 13) 0, .at (.le (.a 11) (.a 12)) true, .at (.le (.a 13) (.a 14)) true, .le (.a 11) 4, .le (.a 13) 4]) : Check val := by_e2 11 13 h (fun h => by_eq 610 1 h (fun h => by_eq 611 1 h (fun h => by_eq 612 1 h (fun h => by_way (.le (.c 0) (.a 24)) (.ge (.a 24) 0) (.le (.a 24) (-1)) rfl rfl h (fun h => lcG s_check h [(.c 2)] (by kernel_rfl) (fun _ _ _ => by kernel_rfl))
 (fun h => lcG s_check h [(.c 0)] (by kernel_rfl) (fun _ _ _ => by kernel_rfl)))
 (fun h => lcG s_check h [(.c 2)] (by kernel_rfl) (fun _ _ _ => by kernel_rfl)))
 (fun h => lcG s_check h [(.c 2)] (by kernel_rfl) (fun _ _ _ => by kernel_rfl)))
 (fun h => lcG s_check h [(.c 2)] (by kernel_rfl) (fun _ _ _ => by kernel_rfl)))
 (fun h => lcG s_check h [(.c 2)] (by kernel_rfl) (fun _ _ _ => by kernel_rfl))

theorem check_16 (val : Nat → Int) (h : Holds val [tI 22 0, .ge (.a 602) 0, .ge (.a 601) 0, .ne (.and .i64 (.a 23) (.c 7)) 0, .ge (.a 604) 0, .le (.a 24) 7, .ge (.a 24) (-1), .le (.a 23) 255, .ge (.a 23) 0, .le (.a 22) 3, .ge (.a 22) 0, .le (.a 21) 5, .ge (.a 21) 0, tI 614 1, .ge (.a 11) 0, .ge (.a 13) 0, .at (.le (.a 11) (.a 12)) true, .at (.le (.a 13) (.a 14)) true, .le (.a 11) 4, .le (.a 13) 4]) : Check val := by_e2 11 13 h (fun h => by_eq 610 1 h (fun h => by_eq 611 1 h (fun h => by_eq 612 1 h (fun h => lcG s_check h [(.c 2)] (by kernel_rfl) (fun _ _ _ => by kernel_rfl))
 (fun h => lcG s_check h [(.c 2)] (by kernel_rfl) (fun _ _ _ => by kernel_rfl)))
 (fun h => lcG s_check h [(.c 2)] (by kernel_rfl) (fun _ _ _ => by kernel_rfl)))
 (fun h => lcG s_check h [(.c 2)] (by kernel_rfl) (fun _ _ _ => by kernel_rfl)))
 (fun h => lcG s_check h [(.c 2)] (by kernel_rfl) (fun _ _ _ => by kernel_rfl))

theorem check_17 (val : Nat → Int) (h : Holds val [tN 22 0, .ge (.a 602) 0, .ge (.a 601) 0, .ne (.and .i64 (.a 23) (.c 7)) 0, .ge (.a 604) 0, .le (.a 24) 7, .ge (.a 24) (-1), .le (.a 23) 255, .ge (.a 23) 0, .le (.a 22) 3, .ge (.a 22) 0, .le (.a 21) 5, .ge (.a 21) 0, tI 614 1, .ge (.a 11) 0, .ge (.a 13) 0, .at (.le (.a 11) (.a 12)) true, .at (.le (.a 13) (.a 14)) true, .le (.a 11) 4, .le (.a 13) 4]) : Check val := by_e2 11 13 h (fun h => by_eq 610 1 h (fun h => by_eq 611 1 h (fun h => by_eq 612 1 h (fun h => lcG s_check h [(.c 2)] (by kernel_rfl) (fun _ _ _ => by kernel_rfl))
 (fun h => lcG s_check h [(.c 2)] (by kernel_rfl) (fun _ _ _ => by kernel_rfl)))
 (fun h => lcG s_check h [(.c 2)] (by kernel_rfl) (fun _ _ _ => by kernel_rfl)))
 (fun h => lcG s_check h [(.c 2)] (by kernel_rfl) (fun _ _ _ => by kernel_rfl)))
 (fun h => lcG s_check h [(.c 2)] (by kernel_rfl) (fun _ _ _ => by kernel_rfl))

theorem check_18 (val : Nat → Int) (h : Holds val [tI 22 0, .le (.a 602) (-1), .ge (.a 601) 0, .ne (.and .i64 (.a 23) (.c 7)) 0, .ge (.a 604) 0, .le (.a 24) 7, .ge (.a 24) (-1), .le (.a 23) 255, .ge (.a 23) 0, .le (.a 22) 3, .ge (.a 22) 0, .le (.a 21) 5, .ge (.a 21) 0, tI 614 1, .ge (.a 11) 0, .ge (.a 13) 0, .at (.le (.a 11) (.a 12)) true, .at (.le (.a 13) (.a 14)) true, .le (.a 11) 4, .le (.a 13) 4]) : Check val := by_e2 11 13 h (fun h => by_eq 610 1 h (fun h => by_eq 611 1 h (fun h => by_eq 612 1 h (fun h => lcG s_check h [(.c 2)] (by kernel_rfl) (fun _ _ _ => by kernel_rfl))
 (fun h => lcG s_check h [(.c 2)] (by kernel_rfl) (fun _ _ _ => by kernel_rfl)))
 (fun h => lcG s_check h [(.c 2)] (by kernel_rfl) (fun _ _ _ => by kernel_rfl)))
 (fun h => lcG s_check h [(.c 2)] (by kernel_rfl) (fun _ _ _ => by kernel_rfl)))
 (fun h => lcG s_check h [(.c 2)] (by kernel_rfl) (fun _ _ _ => by kernel_rfl))

theorem check_19 (val : Nat → Int) (h : Holds val [tN 22 0, .le (.a 602) (-1), .ge (.a 601) 0, .ne (.and .i64 (.a 23) (.c 7)) 0, .ge (.a 604) 0, .le (.a 24) 7, .ge (.a 24) (-1), .le (.a 23) 255, .ge (.a 23) 0, .le (.a 22) 3, .ge (.a 22) 0, .le (.a 21) 5, .ge (.a 21) 0, tI 614 1, .ge (.a 11) 0, .ge (.a 13) 0, .at (.le (.a 11) (.a 12)) true, .at (.le (.a 13) (.a 14)) true, .le (.a 11) 4, .le (.a 13) 4]) : Check val := by_e2 11 13 h (fun h => by_eq 610 1 h (fun h => by_eq 611 1 h (fun h => by_eq 612 1 h (fun h => lcG s_check h [(.c 2)] (by kernel_rfl) (fun _ _ _ => by kernel_rfl))
 (fun h => lcG s_check h [(.c 2)] (by kernel_rfl) (fun _ _ _ => by kernel_rfl)))
 (fun h => lcG s_check h [(.c 2)] (by kernel_rfl) (fun _ _ _ => by kernel_rfl)))
 (fun h => lcG s_check h [(.c 2)] (by kernel_rfl) (fun _ _ _ => by kernel_rfl)))
 (fun h => lcG s_check h [(.c 2)] (by kernel_rfl) (fun _ _ _ => by kernel_rfl))

theorem check_20 (val : Nat → Int) (h : Holds val [tI 22 0, .ge (.a 602) 0, .le (.a 601) (-1), .ne (.and .i64 (.a 23) (.c 7)) 0, .ge (.a 604) 0, .le (.a 24) 7, .ge (.a 24) (-1), .le (.a 23) 255, .ge (.a 23) 0, .le (.a 22) 3, .ge (.a 22) 0, .le (.a 21) 5, .ge (.a 21) 0, tI 614 1, .ge (.a 11) 0, .ge (.a 13) 0, .at (.le (.a 11) (.a 12)) true, .at (.le (.a 13) (.a 14)) true, .le (.a 11) 4, .le (.a 13) 4]) : Check val := by_e2 11 13 h (fun h => by_eq 610 1 h (fun h => by_eq 611 1 h (fun h => by_eq 612 1 h (fun h => lcG s_check h [(.c 2)] (by kernel_rfl) (fun _ _ _ => by kernel_rfl))
 (fun h => lcG s_check h [(.c 2)] (by kernel_rfl) (fun _ _ _ => by kernel_rfl)))
 (fun h => lcG s_check h [(.c 2)] (by kernel_rfl) (fun _ _ _ => by kernel_rfl)))
 (fun h => lcG s_check h [(.c 2)] (by kernel_rfl) (fun _ _ _ => by kernel_rfl)))
 (fun h => lcG s_check h [(.c 2)] (by kernel_rfl) (fun _ _ _ => by kernel_rfl))

theorem check_21 (val : Nat → Int) (h : Holds val [tN 22 0, .ge (.a 602) 0, .le (.a 601) (-1), .ne (.and .i64 (.a 23) (.c 7)) 0, .ge (.a 604) 0, .le (.a 24) 7, .ge (.a 24) (-1), .le (.a 23) 255, .ge (.a 23) 0, .le (.a 22) 3, .ge (.a 22) 0, .le (.a 21) 5, .ge (.a 21) 0, tI 614 1, .ge (.a 11) 0, .ge (.a 13) 0, .at (.le (.a 11) (.a 12)) true, .at (.le (.a 13) (.a 14)) true, .le (.a 11) 4, .le (.a 13) 4]) : Check val := by_e2 11 13 h (fun h => by_eq 610 1 h (fun h => by_eq 611 1 h (fun h => by_eq 612 1 h (fun h => lcG s_check h [(.c 2)] (by kernel_rfl) (fun _ _ _ => by kernel_rfl))
 (fun h => lcG s_check h [(.c 2)] (by kernel_rfl) (fun _ _ _ => by kernel_rfl)))
 (fun h => lcG s_check h [(.c 2)] (by kernel_rfl) (fun _ _ _ => by kernel_rfl)))
 (fun h => lcG s_check h [(.c 2)] (by kernel_rfl) (fun _ _ _ => by kernel_rfl)))
 (fun h => lcG s_check h [(.c 2)] (by kernel_rfl) (fun _ _ _ => by kernel_rfl))

theorem check_22 (val : Nat → Int) (h : Holds val [tI 22 0, .le (.a 602) (-1), .le (.a 601) (-1), .ne (.and .i64 (.a 23) (.c 7)) 0, .ge (.a 604) 0, .le (.a 24) 7, .ge (.a 24) (-1), .le (.a 23) 255, .ge (.a 23) 0, .le (.a 22) 3, .ge (.a 22) 0, .le (.a 21) 5, .ge (.a 21) 0, tI 614 1, .ge (.a 11) 0, .ge (.a 13) 0, .at (.le (.a 11) (.a 12)) true, .at (.le (.a 13) (.a 14)) true, .le (.a 11) 4, .le (.a 13) 4]) : Check val := by_e2 11 13 h (fun h => by_eq 610 1 h (fun h => by_eq 611 1 h (fun h => by_eq 612 1 h (fun h => lcG s_check h [(.c 2)] (by kernel_rfl) (fun _ _ _ => by kernel_rfl))
 (fun h => lcG s_check h [(.c 2)] (by kernel_rfl) (fun _ _ _ => by kernel_rfl)))
 (fun h => lcG s_check h [(.c 2)] (by kernel_rfl) (fun _ _ _ => by kernel_rfl)))
 (fun h => lcG s_check h [(.c 2)] (by kernel_rfl) (fun _ _ _ => by kernel_rfl)))
 (fun h => lcG s_check h [(.c 2)] (by kernel_rfl) (fun _ _ _ => by kernel_rfl))

theorem check_23 (val : Nat → Int) (h : Holds val [tN 22 0, .le (.a 602) (-1), .le (.a 601) (-1), .ne (.and .i64 (.a 23) (.c 7)) 0, .ge (.a 604) 0, .le (.a 24) 7, .ge (.a 24) (-1), .le (.a 23) 255, .ge (.a 23) 0, .le (.a 22) 3, .ge (.a 22) 0, .le (.a 21) 5, .ge (.a 21) 0, tI 614 1, .ge (.a 11) 0, .ge (.a 13) 0, .at (.le (.a 11) (.a 12)) true, .at (.le (.a 13) (.a 14)) true, .le (.a 11) 4, .le (.a 13) 4]) : Check val := by_e2 11 13 h (fun h => by_eq 610 1 h (fun h => by_eq 611 1 h (fun h => by_eq 612 1 h (fun h => lcG s_check h [(.c 2)] (by kernel_rfl) (fun _ _ _ => by kernel_rfl))
 (fun h => lcG s_check h [(.c 2)] (by kernel_rfl) (fun _ _ _ => by kernel_rfl)))
 (fun h => lcG s_check h [(.c 2)] (by kernel_rfl) (fun _ _ _ => by kernel_rfl)))
 (fun h => lcG s_check h [(.c 2)] (by kernel_rfl) (fun _ _ _ => by kernel_rfl)))
 (fun h => lcG s_check h [(.c 2)] (by kernel_rfl) (fun _ _ _ => by kernel_rfl))

theorem check_24 (val : Nat → Int) (h : Holds val [tI 22 0, .ge (.a 602) 0, .ge (.a 601) 0, .le (.a 604) (-1), .le (.a 24) 7, .ge (.a 24) (-1), .le (.a 23) 255, .ge (.a 23) 0, .le (.a 22) 3, .ge (.a 22) 0, .le (.a 21) 5, .ge (.a 21) 0, tI 614 1, .ge (.a 11) 0, .ge (.a 13) 0, .at (.le (.a 11) (.a 12)) true, .at (.le (.a 13) (.a 14)) true, .le (.a 11) 4, .le (.a 13) 4]) : Check val := by_e2 11 13 h (fun h => by_eq 610 1 h (fun h => by_eq 611 1 h (fun h => by_eq 612 1 h (fun h => by_way (.le (.c 0) (.a 24)) (.ge (.a 24) 0) (.le (.a 24) (-1)) rfl rfl h (fun h => lcG s_check h [(.c 2)] (by kernel_rfl) (fun _ _ _ => by kernel_rfl))
 (fun h => by_eq 613 1 h (fun h => lcG s_check h [(.c 2)] (by kernel_rfl) (fun _ _ _ => by kernel_rfl))
 (fun h => lcG s_check h [(.c 0)] (by kernel_rfl) (fun _ _ _ => by kernel_rfl))))
 (fun h => lcG s_check h [(.c 2)] (by kernel_rfl) (fun _ _ _ => by kernel_rfl)))
 (fun h => lcG s_check h [(.c 2)] (by kernel_rfl) (fun _ _ _ => by kernel_rfl)))
 (fun h => lcG s_check h [(.c 2)] (by kernel_rfl) (fun _ _ _ => by kernel_rfl)))
 (fun h => lcG s_check h [(.c 2)] (by kernel_rfl) (fun _ _ _ => by kernel_rfl))

theorem check_25 (val : Nat → Int) (h : Holds val [tN 22 0, .ge (.a 602) 0, .ge (.a 601) 0, .le (.a 604) (-1), .le (.a 24) 7, .ge (.a 24) (-1), .le (.a 23) 255, .ge (.a 23) 0, .le (.a 22) 3, .ge (.a 22) 0, .le (.a 21) 5, .ge (.a 21) 0, tI 614 1, .ge (.a 11) 0, .ge (.a 13) 0, .at (.le (.a 11) (.a 12)) true, .at (.le (.a 13) (.a 14)) true, .le (.a 11) 4, .le (.a 13) 4]) : Check val := by_e2 11 13 h (fun h => by_eq 610 1 h (fun h => by_eq 611 1 h (fun h => by_eq 612 1 h (fun h => by_way (.le (.c 0) (.a 24)) (.ge (.a 24) 0) (.le (.a 24) (-1)) rfl rfl h (fun h => lcG s_check h [(.c 2)] (by kernel_rfl) (fun _ _ _ => by kernel_rfl))
 (fun h => lcG s_check h [(.c 0)] (by kernel_rfl) (fun _ _ _ => by kernel_rfl)))
 (fun h => lcG s_check h [(.c 2)] (by kernel_rfl) (fun _ _ _ => by kernel_rfl)))
 (fun h => lcG s_check h [(.c 2)] (by kernel_rfl) (fun _ _ _ => by kernel_rfl)))
 (fun h => lcG s_check h [(.c 2)] (by kernel_rfl) (fun _ _ _ => by kernel_rfl)))
 (fun h => lcG s_check h [(.c 2)] (by kernel_rfl) (fun _ _ _ => by kernel_rfl))

theorem check_26 (val : Nat → Int) (h : Holds val [tI 22 0, .le (.a 602) (-1), .ge (.a 601) 0, .le (.a 604) (-1), .le (.a 24) 7, .ge (.a 24) (-1), .le (.a 23) 255, .ge (.a 23) 0, .le (.a 22) 3, .ge (.a 22) 0, .le (.a 21) 5, .ge (.a 21) 0, tI 614 1, .ge (.a 11) 0, .ge (.a 13) 0, .at (.le (.a 11) (.a 12)) true, .at (.le (.a 13) (.a 14)) true, .le (.a 11) 4, .le (.a 13) 4]) : Check val := by_e2 11 13 h (fun h => by_eq 610 1 h (fun h => by_eq 611 1 h (fun h => by_eq 612 1 h (fun h => by_way (.le (.c 0) (.a 24)) (.ge (.a 24) 0) (.le (.a 24) (-1)) rfl rfl h (fun h => lcG s_check h [(.c 2)] (by kernel_rfl) (fun _ _ _ => by kernel_rfl))
 (fun h => lcG s_check h [(.c 2)] (by kernel_rfl) (fun _ _ _ => by kernel_rfl)))
 (fun h => lcG s_check h [(.c 2)] (by kernel_rfl) (fun _ _ _ => by kernel_rfl)))
 (fun h => lcG s_check h [(.c 2)] (by kernel_rfl) (fun _ _ _ => by kernel_rfl)))
 (fun h => lcG s_check h [(.c 2)] (by kernel_rfl) (fun _ _ _ => by kernel_rfl)))
 (fun h => lcG s_check h [(.c 2)] (by kernel_rfl) (fun _ _ _ => by kernel_rfl))

theorem check_27 (val : Nat → Int) (h : Holds val [tN 22 0, .le (.a 602) (-1), .ge (.a 601) 0, .le (.a 604) (-1), .le (.a 24) 7, .ge (.a 24) (-1), .le (.a 23) 255, .ge (.a 23) 0, .le (.a 22) 3, .ge (.a 22) 0, .le (.a 21) 5, .ge (.a 21) 0, tI 614 1, .ge (.a 11) 0, .ge (.a 13) 0, .at (.le (.a 11) (.a 12)) true, .at (.le (.a 13) (.a 14)) true, .le (.a 11) 4, .le (.a 13) 4]) : Check val := by_e2 11 13 h (fun h => by_eq 610 1 h (fun h => by_eq 611 1 h (fun h => by_eq 612 1 h (fun h => by_way (.le (.c 0) (.a 24)) (.ge (.a 24) 0) (.le (.a 24) (-1)) rfl rfl h (fun h => lcG s_check h [(.c 2)] (by kernel_rfl) (fun _ _ _ => by kernel_rfl))
 (fun h => lcG s_check h [(.c 2)] (by kernel_rfl) (fun _ _ _ => by kernel_rfl)))
 (fun h => lcG s_check h [(.c 2)] (by kernel_rfl) (fun _ _ _ => by kernel_rfl)))
 (fun h => lcG s_check h [(.c 2)] (by kernel_rfl) (fun _ _ _ => by kernel_rfl)))
 (fun h => lcG s_check h [(.c 2)] (by kernel_rfl) (fun _ _ _ => by kernel_rfl)))
 (fun h => lcG s_check h [(.c 2)] (by kernel_rfl) (fun _ _ _ => by kernel_rfl))

theorem check_28 (val : Nat → Int) (h : Holds val [tI 22 0, .ge (.a 602) 0, .le (.a 601) (-1), .le (.a 604) (-1), .le (.a 24) 7, .ge (.a 24) (-1), .le (.a 23) 255, .ge (.a 23) 0, .le (.a 22) 3, .ge (.a 22) 0, .le (.a 21) 5, .ge (.a 21) 0, tI 614 1, .ge (.a 11) 0, .ge (.a 13) 0, .at (.le (.a 11) (.a 12)) true, .at (.le (.a 13) (.a 14)) true, .le (.a 11) 4, .le (.a 13) 4]) : Check val := by_e2 11 13 h (fun h => by_eq 610 1 h (fun h => by_eq 611 1 h (fun h => by_eq 612 1 h (fun h => by_way (.le (.c 0) (.a 24)) (.ge (.a 24) 0) (.le (.a 24) (-1)) rfl rfl h (fun h => by_eq 613 1 h (fun h => lcG s_check h [(.c 2)] (by kernel_rfl) (fun _ _ _ => by kernel_rfl))
 (fun h => lcG s_check h [(.c 0)] (by kernel_rfl) (fun _ _ _ => by kernel_rfl)))
 (fun h => lcG s_check h [(.c 2)] (by kernel_rfl) (fun _ _ _ => by kernel_rfl)))
 (fun h => lcG s_check h [(.c 2)] (by kernel_rfl) (fun _ _ _ => by kernel_rfl)))
 (fun h => lcG s_check h [(.c 2)] (by kernel_rfl) (fun _ _ _ => by kernel_rfl)))
 (fun h => lcG s_check h [(.c 2)] (by kernel_rfl) (fun _ _ _ => by kernel_rfl)))
 (fun h => lcG s_check h [(.c 2)] (by kernel_rfl) (fun _ _ _ => by kernel_rfl))

theorem check_29 (val : Nat → Int) (h : Holds val [tN 22 0, .ge (.a 602) 0, .le (.a 601) (-1), .le (.a 604) (-1), .le (.a 24) 7, .ge (.a 24) (-1), .le (.a 23) 255, .ge (.a 23) 0, .le (.a 22) 3, .ge (.a 22) 0, .le (.a 21) 5, .ge (.a 21) 0, tI 614 1, .ge (.a 11) 0, .ge (.a 13) 0, .at (.le (.a 11) (.a 12)) true, .at (.le (.a 13) (.a 14)) true, .le (.a 11) 4, .le (.a 13) 4]) : Check val := by_e2 11 13 h (fun h => by_eq 610 1 h (fun h => by_eq 611 1 h (fun h => by_eq 612 1 h (fun h => by_way (.le (.c 0) (.a 24)) (.ge (.a 24) 0) (.le (.a 24) (-1)) rfl rfl h (fun h => lcG s_check h [(.c 0)] (by kernel_rfl) (fun _ _ _ => by kernel_rfl))
 (fun h => lcG s_check h [(.c 2)] (by kernel_rfl) (fun _ _ _ => by kernel_rfl)))
 (fun h => lcG s_check h [(.c 2)] (by kernel_rfl) (fun _ _ _ => by kernel_rfl)))
 (fun h => lcG s_check h [(.c 2)] (by kernel_rfl) (fun _ _ _ => by kernel_rfl)))
 (fun h => lcG s_check h [(.c 2)] (by kernel_rfl) (fun _ _ _ => by kernel_rfl)))
 (fun h => lcG s_check h [(.c 2)] (by kernel_rfl) (fun _ _ _ => by kernel_rfl))

theorem check_30 (val : Nat → Int) (h : Holds val [tI 22 0, .le (.a 602) (-1), .le (.a 601) (-1), .le (.a 604) (-1), .le (.a 24) 7, .ge (.a 24) (-1), .le (.a 23) 255, .ge (.a 23) 0, .le (.a 22) 3, .ge (.a 22) 0, .le (.a 21) 5, .ge (.a 21) 0, tI 614 1, .ge (.a 11) 0, .ge (.a 13) 0, .at (.le (.a 11) (.a 12)) true, .at (.le (.a 13) (.a 14)) true, .le (.a 11) 4, .le (.a 13) 4]) : Check val := by_e2 11 13 h (fun h => by_eq 610 1 h (fun h => by_eq 611 1 h (fun h => by_eq 612 1 h (fun h => by_way (.le (.c 0) (.a 24)) (.ge (.a 24) 0) (.le (.a 24) (-1)) rfl rfl h (fun h => lcG s_check h [(.c 2)] (by kernel_rfl) (fun _ _ _ => by kernel_rfl))
 (fun h => by_eq 613 1 h (fun h => lcG s_check h [(.c 2)] (by kernel_rfl) (fun _ _ _ => by kernel_rfl))
 (fun h => lcG s_check h [(.c 0)] (by kernel_rfl) (fun _ _ _ => by kernel_rfl))))
 (fun h => lcG s_check h [(.c 2)] (by kernel_rfl) (fun _ _ _ => by kernel_rfl)))
 (fun h => lcG s_check h [(.c 2)] (by kernel_rfl) (fun _ _ _ => by kernel_rfl)))
 (fun h => lcG s_check h [(.c 2)] (by kernel_rfl) (fun _ _ _ => by kernel_rfl)))
 (fun h => lcG s_check h [(.c 2)] (by kernel_rfl) (fun _ _ _ => by kernel_rfl))

theorem check_31 (val : Nat → Int) (h : Holds val [tN 22 0, .le (.a 602) (-1), .le (.a 601) (-1), .le (.a 604) (-1), .le (.a 24) 7, .ge (.a 24) (-1), .le (.a 23) 255, .ge (.a 23) 0, .le (.a 22) 3, .ge (.a 22) 0, .le (.a 21) 5, .ge (.a 21) 0, tI 614 1, .ge (.a 11) 0, .ge (.a 13) 0, .at (.le (.a 11) (.a 12)) true, .at (.le (.a 13) (.a 14)) true, .le (.a 11) 4, .le (.a 13) 4]) : Check val := by_e2 11 13 h (fun h => by_eq 610 1 h (fun h => by_eq 611 1 h (fun h => by_eq 612 1 h (fun h => by_way (.le (.c 0) (.a 24)) (.ge (.a 24) 0) (.le (.a 24) (-1)) rfl rfl h (fun h => lcG s_check h [(.c 2)] (by kernel_rfl) (fun _ _ _ => by kernel_rfl))
 (fun h => lcG s_check h [(.c 0)] (by kernel_rfl) (fun _ _ _ => by kernel_rfl)))
 (fun h => lcG s_check h [(.c 2)] (by kernel_rfl) (fun _ _ _ => by kernel_rfl)))
 (fun h => lcG s_check h [(.c 2)] (by kernel_rfl) (fun _ _ _ => by kernel_rfl)))
 (fun h => lcG s_check h [(.c 2)] (by kernel_rfl) (fun _ _ _ => by kernel_rfl)))
 (fun h => lcG s_check h [(.c 2)] (by kernel_rfl) (fun _ _ _ => by kernel_rfl))

theorem check_32 (val : Nat → Int) (h : Holds val [tN 614 1, .ge (.a 11) 0, .ge (.a 13) 0, .at (.le (.a 11) (.a 12)) true, .at (.le (.a 13) (.a 14)) true, .le (.a 11) 4, .le (.a 13) 4]) : Check val := lcG s_check h [(.c 6)] (by kernel_rfl) (fun _ _ _ => by kernel_rfl)

theorem check (val : Nat → Int) (h : Holds val [.ge (.a 11) 0, .ge (.a 13) 0, .at (.le (.a 11) (.a 12)) true, .at (.le (.a 13) (.a 14)) true, .le (.a 11) 4, .le (.a 13) 4]) : Check val := by_eq 614 1 h (fun h => by_way (.lt (.a 21) (.c 0)) (.le (.a 21) (-1)) (.ge (.a 21) 0) rfl rfl h (fun h => check_0 val h)
 (fun h => by_way (.lt (.c 5) (.a 21)) (.ge (.a 21) 6) (.le (.a 21) 5) rfl rfl h (fun h => check_1 val h)
 (fun h => by_way (.lt (.a 22) (.c 0)) (.le (.a 22) (-1)) (.ge (.a 22) 0) rfl rfl h (fun h => check_2 val h)
 (fun h => by_way (.lt (.c 3) (.a 22)) (.ge (.a 22) 4) (.le (.a 22) 3) rfl rfl h (fun h => check_3 val h)
 (fun h => by_way (.lt (.a 23) (.c 0)) (.le (.a 23) (-1)) (.ge (.a 23) 0) rfl rfl h (fun h => check_4 val h)
 (fun h => by_way (.lt (.c 255) (.a 23)) (.ge (.a 23) 256) (.le (.a 23) 255) rfl rfl h (fun h => check_5 val h)
 (fun h => by_way (.lt (.a 24) (.c (-1))) (.le (.a 24) (-2)) (.ge (.a 24) (-1)) rfl rfl h (fun h => check_6 val h)
 (fun h => by_way (.lt (.c 7) (.a 24)) (.ge (.a 24) 8) (.le (.a 24) 7) rfl rfl h (fun h => check_7 val h)
 (fun h => by_way (.le (.c 0) (.a 604)) (.ge (.a 604) 0) (.le (.a 604) (-1)) rfl rfl h (fun h => by_way (.eq (.and .i64 (.a 23) (.c 7)) (.c 0)) (.is (.and .i64 (.a 23) (.c 7)) 0) (.ne (.and .i64 (.a 23) (.c 7)) 0) rfl rfl h (fun h => by_way (.le (.c 0) (.a 601)) (.ge (.a 601) 0) (.le (.a 601) (-1)) rfl rfl h (fun h => by_way (.le (.c 0) (.a 602)) (.ge (.a 602) 0) (.le (.a 602) (-1)) rfl rfl h (fun h => by_eq 22 0 h (fun h => check_8 val h)
 (fun h => check_9 val h))
 (fun h => by_eq 22 0 h (fun h => check_10 val h)
 (fun h => check_11 val h)))
 (fun h => by_way (.le (.c 0) (.a 602)) (.ge (.a 602) 0) (.le (.a 602) (-1)) rfl rfl h (fun h => by_eq 22 0 h (fun h => check_12 val h)
 (fun h => check_13 val h))
 (fun h => by_eq 22 0 h (fun h => check_14 val h)
 (fun h => check_15 val h))))
 (fun h => by_way (.le (.c 0) (.a 601)) (.ge (.a 601) 0) (.le (.a 601) (-1)) rfl rfl h (fun h => by_way (.le (.c 0) (.a 602)) (.ge (.a 602) 0) (.le (.a 602) (-1)) rfl rfl h (fun h => by_eq 22 0 h (fun h => check_16 val h)
 (fun h => check_17 val h))
 (fun h => by_eq 22 0 h (fun h => check_18 val h)
 (fun h => check_19 val h)))
 (fun h => by_way (.le (.c 0) (.a 602)) (.ge (.a 602) 0) (.le (.a 602) (-1)) rfl rfl h (fun h => by_eq 22 0 h (fun h => check_20 val h)
 (fun h => check_21 val h))
 (fun h => by_eq 22 0 h (fun h => check_22 val h)
 (fun h => check_23 val h)))))
 (fun h => by_way (.le (.c 0) (.a 601)) (.ge (.a 601) 0) (.le (.a 601) (-1)) rfl rfl h (fun h => by_way (.le (.c 0) (.a 602)) (.ge (.a 602) 0) (.le (.a 602) (-1)) rfl rfl h (fun h => by_eq 22 0 h (fun h => check_24 val h)
 (fun h => check_25 val h))
 (fun h => by_eq 22 0 h (fun h => check_26 val h)
 (fun h => check_27 val h)))
 (fun h => by_way (.le (.c 0) (.a 602)) (.ge (.a 602) 0) (.le (.a 602) (-1)) rfl rfl h (fun h => by_eq 22 0 h (fun h => check_28 val h)
 (fun h => check_29 val h))
 (fun h => by_eq 22 0 h (fun h => check_30 val h)
 (fun h => check_31 val h)))))))))))))
 (fun h => check_32 val h)

end Go.Proofs.Ytlggmhchgicjkaa.Tab
