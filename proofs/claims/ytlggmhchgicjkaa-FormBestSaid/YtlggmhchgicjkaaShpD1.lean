/-
  Ways through the code, part 1.
-/
import Derived.Test.YtlggmhchgicjkaaShpH
namespace Go.Proofs.Ytlggmhchgicjkaa.Tab
open Go.Sim
set_option maxRecDepth 100000
set_option linter.unusedSimpArgs false
set_option maxHeartbeats 4000000

theorem checkZ_0 (val : Nat → Int) (h : Holds val [.le (.a 21) (-1), tI 614 1, tI 11 0, tI 13 0]) : CheckZ val := lcG s_checkZ h [(.c 5)] (by kernel_rfl) (fun _ _ _ => by kernel_rfl)

theorem checkZ_1 (val : Nat → Int) (h : Holds val [.ge (.a 21) 6, .ge (.a 21) 0, tI 614 1, tI 11 0, tI 13 0]) : CheckZ val := lcG s_checkZ h [(.c 5)] (by kernel_rfl) (fun _ _ _ => by kernel_rfl)

theorem checkZ_2 (val : Nat → Int) (h : Holds val [.le (.a 22) (-1), .le (.a 21) 5, .ge (.a 21) 0, tI 614 1, tI 11 0, tI 13 0]) : CheckZ val := lcG s_checkZ h [(.c 5)] (by kernel_rfl) (fun _ _ _ => by kernel_rfl)

theorem checkZ_3 (val : Nat → Int) (h : Holds val [.ge (.a 22) 4, .ge (.a 22) 0, .le (.a 21) 5, .ge (.a 21) 0, tI 614 1, tI 11 0, tI 13 0]) : CheckZ val := lcG s_checkZ h [(.c 5)] (by kernel_rfl) (fun _ _ _ => by kernel_rfl)

theorem checkZ_4 (val : Nat → Int) (h : Holds val [.le (.a 23) (-1), .le (.a 22) 3, .ge (.a 22) 0, .le (.a 21) 5, .ge (.a 21) 0, tI 614 1, tI 11 0, tI 13 0]) : CheckZ val := lcG s_checkZ h [(.c 5)] (by kernel_rfl) (fun _ _ _ => by kernel_rfl)

theorem checkZ_5 (val : Nat → Int) (h : Holds val [.ge (.a 23) 256, .ge (.a 23) 0, .le (.a 22) 3, .ge (.a 22) 0, .le (.a 21) 5, .ge (.a 21) 0, tI 614 1, tI 11 0, tI 13 0]) : CheckZ val := lcG s_checkZ h [(.c 5)] (by kernel_rfl) (fun _ _ _ => by kernel_rfl)

theorem checkZ_6 (val : Nat → Int) (h : Holds val [.le (.a 24) (-2), .le (.a 23) 255, .ge (.a 23) 0, .le (.a 22) 3, .ge (.a 22) 0, .le (.a 21) 5, .ge (.a 21) 0, tI 614 1, tI 11 0, tI 13 0]) : CheckZ val := lcG s_checkZ h [(.c 5)] (by kernel_rfl) (fun _ _ _ => by kernel_rfl)

theorem checkZ_7 (val : Nat → Int) (h : Holds val [.ge (.a 24) 8, .ge (.a 24) (-1), .le (.a 23) 255, .ge (.a 23) 0, .le (.a 22) 3, .ge (.a 22) 0, .le (.a 21) 5, .ge (.a 21) 0, tI 614 1, tI 11 0, tI 13 0]) : CheckZ val := lcG s_checkZ h [(.c 5)] (by kernel_rfl) (fun _ _ _ => by kernel_rfl)

theorem checkZ_8 (val : Nat → Int) (h : Holds val [tI 21 0, tI 26 1, .le (.a 24) 7, .ge (.a 24) (-1), .le (.a 23) 255, .ge (.a 23) 0, .le (.a 22) 3, .ge (.a 22) 0, .le (.a 21) 5, .ge (.a 21) 0, tI 614 1, tI 11 0, tI 13 0]) : CheckZ val := by_eq 22 0 h (fun h => lcG s_checkZ h [(.c 2)] (by kernel_rfl) (fun _ _ _ => by kernel_rfl))
 (fun h => by_way (.le (.c (-1)) (.a 25)) (.ge (.a 25) (-1)) (.le (.a 25) (-2)) rfl rfl h (fun h => by_way (.le (.a 25) (.c 1)) (.le (.a 25) 1) (.ge (.a 25) 2) rfl rfl h (fun h => by_eq 27 0 h (fun h => by_way (.le (.c 0) (.a 24)) (.ge (.a 24) 0) (.le (.a 24) (-1)) rfl rfl h (fun h => lcG s_checkZ h [(.c 2)] (by kernel_rfl) (fun _ _ _ => by kernel_rfl))
 (fun h => lcG s_checkZ h [(.c 0)] (by kernel_rfl) (fun _ _ _ => by kernel_rfl)))
 (fun h => by_eq 27 1 h (fun h => by_way (.le (.c 0) (.a 24)) (.ge (.a 24) 0) (.le (.a 24) (-1)) rfl rfl h (fun h => lcG s_checkZ h [(.c 2)] (by kernel_rfl) (fun _ _ _ => by kernel_rfl))
 (fun h => lcG s_checkZ h [(.c 0)] (by kernel_rfl) (fun _ _ _ => by kernel_rfl)))
 (fun h => lcG s_checkZ h [(.c 2)] (by kernel_rfl) (fun _ _ _ => by kernel_rfl))))
 (fun h => lcG s_checkZ h [(.c 2)] (by kernel_rfl) (fun _ _ _ => by kernel_rfl)))
 (fun h => lcG s_checkZ h [(.c 2)] (by kernel_rfl) (fun _ _ _ => by kernel_rfl)))

theorem checkZ_9 (val : Nat → Int) (h : Holds val [tI 21 1, tN 21 0, tI 26 1, .le (.a 24) 7, .ge (.a 24) (-1), .le (.a 23) 255, .ge (.a 23) 0, .le (.a 22) 3, .ge (.a 22) 0, .le (.a 21) 5, .ge (.a 21) 0, tI 614 1, tI 11 0, tI 13 0]) : CheckZ val := by_eq 22 0 h (fun h => lcG s_checkZ h [(.c 2)] (by kernel_rfl) (fun _ _ _ => by kernel_rfl))
 (fun h => by_way (.le (.c (-1)) (.a 25)) (.ge (.a 25) (-1)) (.le (.a 25) (-2)) rfl rfl h (fun h => by_way (.le (.a 25) (.c 1)) (.le (.a 25) 1) (.ge (.a 25) 2) rfl rfl h (fun h => by_eq 27 0 h (fun h => by_way (.le (.c 0) (.a 24)) (.ge (.a 24) 0) (.le (.a 24) (-1)) rfl rfl h (fun h => lcG s_checkZ h [(.c 2)] (by kernel_rfl) (fun _ _ _ => by kernel_rfl))
 (fun h => lcG s_checkZ h [(.c 0)] (by kernel_rfl) (fun _ _ _ => by kernel_rfl)))
 (fun h => by_eq 27 1 h (fun h => by_way (.le (.c 0) (.a 24)) (.ge (.a 24) 0) (.le (.a 24) (-1)) rfl rfl h (fun h => lcG s_checkZ h [(.c 2)] (by kernel_rfl) (fun _ _ _ => by kernel_rfl))
 (fun h => lcG s_checkZ h [(.c 0)] (by kernel_rfl) (fun _ _ _ => by kernel_rfl)))
 (fun h => lcG s_checkZ h [(.c 2)] (by kernel_rfl) (fun _ _ _ => by kernel_rfl))))
 (fun h => lcG s_checkZ h [(.c 2)] (by kernel_rfl) (fun _ _ _ => by kernel_rfl)))
 (fun h => lcG s_checkZ h [(.c 2)] (by kernel_rfl) (fun _ _ _ => by kernel_rfl)))

theorem checkZ_10 (val : Nat → Int) (h : Holds val [tI 21 2, tN 21 1, tN 21 0, tI 26 1, .le (.a 24) 7, .ge (.a 24) (-1), .le (.a 23) 255, .ge (.a 23) 0, .le (.a 22) 3, .ge (.a 22) 0, .le (.a 21) 5, .ge (.a 21) 0, tI 614 1, tI 11 0, tI 13 0]) : CheckZ val := by_eq 22 0 h (fun h => lcG s_checkZ h [(.c 2)] (by kernel_rfl) (fun _ _ _ => by kernel_rfl))
 (fun h => by_way (.le (.c (-1)) (.a 25)) (.ge (.a 25) (-1)) (.le (.a 25) (-2)) rfl rfl h (fun h => by_way (.le (.a 25) (.c 1)) (.le (.a 25) 1) (.ge (.a 25) 2) rfl rfl h (fun h => by_eq 27 0 h (fun h => by_way (.le (.c 0) (.a 24)) (.ge (.a 24) 0) (.le (.a 24) (-1)) rfl rfl h (fun h => lcG s_checkZ h [(.c 2)] (by kernel_rfl) (fun _ _ _ => by kernel_rfl))
 (fun h => lcG s_checkZ h [(.c 0)] (by kernel_rfl) (fun _ _ _ => by kernel_rfl)))
 (fun h => by_eq 27 1 h (fun h => by_way (.le (.c 0) (.a 24)) (.ge (.a 24) 0) (.le (.a 24) (-1)) rfl rfl h (fun h => lcG s_checkZ h [(.c 2)] (by kernel_rfl) (fun _ _ _ => by kernel_rfl))
 (fun h => lcG s_checkZ h [(.c 0)] (by kernel_rfl) (fun _ _ _ => by kernel_rfl)))
 (fun h => lcG s_checkZ h [(.c 2)] (by kernel_rfl) (fun _ _ _ => by kernel_rfl))))
 (fun h => lcG s_checkZ h [(.c 2)] (by kernel_rfl) (fun _ _ _ => by kernel_rfl)))
 (fun h => lcG s_checkZ h [(.c 2)] (by kernel_rfl) (fun _ _ _ => by kernel_rfl)))

theorem checkZ_11 (val : Nat → Int) (h : Holds val [tI 21 4, tN 21 2, tN 21 1, tN 21 0, tI 26 1, .le (.a 24) 7, .ge (.a 24) (-1), .le (.a 23) 255, .ge (.a 23) 0, .le (.a 22) 3, .ge (.a 22) 0, .le (.a 21) 5, .ge (.a 21) 0, tI 614 1, tI 11 0, tI 13 0]) : CheckZ val := by_eq 22 0 h (fun h => lcG s_checkZ h [(.c 2)] (by kernel_rfl) (fun _ _ _ => by kernel_rfl))
 (fun h => by_way (.le (.c (-1)) (.a 25)) (.ge (.a 25) (-1)) (.le (.a 25) (-2)) rfl rfl h (fun h => by_way (.le (.a 25) (.c 1)) (.le (.a 25) 1) (.ge (.a 25) 2) rfl rfl h (fun h => by_eq 27 0 h (fun h => by_way (.le (.c 0) (.a 24)) (.ge (.a 24) 0) (.le (.a 24) (-1)) rfl rfl h (fun h => lcG s_checkZ h [(.c 2)] (by kernel_rfl) (fun _ _ _ => by kernel_rfl))
 (fun h => lcG s_checkZ h [(.c 0)] (by kernel_rfl) (fun _ _ _ => by kernel_rfl)))
 (fun h => by_eq 27 1 h (fun h => by_way (.le (.c 0) (.a 24)) (.ge (.a 24) 0) (.le (.a 24) (-1)) rfl rfl h (fun h => lcG s_checkZ h [(.c 2)] (by kernel_rfl) (fun _ _ _ => by kernel_rfl))
 (fun h => lcG s_checkZ h [(.c 0)] (by kernel_rfl) (fun _ _ _ => by kernel_rfl)))
 (fun h => lcG s_checkZ h [(.c 2)] (by kernel_rfl) (fun _ _ _ => by kernel_rfl))))
 (fun h => lcG s_checkZ h [(.c 2)] (by kernel_rfl) (fun _ _ _ => by kernel_rfl)))
 (fun h => lcG s_checkZ h [(.c 2)] (by kernel_rfl) (fun _ _ _ => by kernel_rfl)))

theorem checkZ_12 (val : Nat → Int) (h : Holds val [tN 21 4, tN 21 2, tN 21 1, tN 21 0, tI 26 1, .le (.a 24) 7, .ge (.a 24) (-1), .le (.a 23) 255, .ge (.a 23) 0, .le (.a 22) 3, .ge (.a 22) 0, .le (.a 21) 5, .ge (.a 21) 0, tI 614 1, tI 11 0, tI 13 0]) : CheckZ val := by_eq 22 0 h (fun h => lcG s_checkZ h [(.c 2)] (by kernel_rfl) (fun _ _ _ => by kernel_rfl))
 (fun h => lcG s_checkZ h [(.c 2)] (by kernel_rfl) (fun _ _ _ => by kernel_rfl))

theorem checkZ_13 (val : Nat → Int) (h : Holds val [tI 25 0, tN 26 1, .le (.a 24) 7, .ge (.a 24) (-1), .le (.a 23) 255, .ge (.a 23) 0, .le (.a 22) 3, .ge (.a 22) 0, .le (.a 21) 5, .ge (.a 21) 0, tI 614 1, tI 11 0, tI 13 0]) : CheckZ val := by_eq 27 0 h (fun h => by_eq 22 0 h (fun h => by_way (.le (.c 0) (.a 24)) (.ge (.a 24) 0) (.le (.a 24) (-1)) rfl rfl h (fun h => lcG s_checkZ h [(.c 2)] (by kernel_rfl) (fun _ _ _ => by kernel_rfl))
 (fun h => by_eq 613 1 h (fun h => lcG s_checkZ h [(.c 2)] (by kernel_rfl) (fun _ _ _ => by kernel_rfl))
 (fun h => lcG s_checkZ h [(.c 0)] (by kernel_rfl) (fun _ _ _ => by kernel_rfl))))
 (fun h => by_way (.le (.c 0) (.a 24)) (.ge (.a 24) 0) (.le (.a 24) (-1)) rfl rfl h (fun h => lcG s_checkZ h [(.c 2)] (by kernel_rfl) (fun _ _ _ => by kernel_rfl))
 (fun h => lcG s_checkZ h [(.c 0)] (by kernel_rfl) (fun _ _ _ => by kernel_rfl))))
 (fun h => by_eq 22 0 h (fun h => lcG s_checkZ h [(.c 2)] (by kernel_rfl) (fun _ _ _ => by kernel_rfl))
 (fun h => lcG s_checkZ h [(.c 2)] (by kernel_rfl) (fun _ _ _ => by kernel_rfl)))

theorem checkZ_14 (val : Nat → Int) (h : Holds val [tI 25 1, tN 25 0, tN 26 1, .le (.a 24) 7, .ge (.a 24) (-1), .le (.a 23) 255, .ge (.a 23) 0, .le (.a 22) 3, .ge (.a 22) 0, .le (.a 21) 5, .ge (.a 21) 0, tI 614 1, tI 11 0, tI 13 0]) : CheckZ val := by_eq 27 0 h (fun h => by_eq 22 0 h (fun h => by_way (.le (.c 0) (.a 24)) (.ge (.a 24) 0) (.le (.a 24) (-1)) rfl rfl h (fun h => lcG s_checkZ h [(.c 2)] (by kernel_rfl) (fun _ _ _ => by kernel_rfl))
 (fun h => by_eq 613 1 h (fun h => lcG s_checkZ h [(.c 2)] (by kernel_rfl) (fun _ _ _ => by kernel_rfl))
 (fun h => lcG s_checkZ h [(.c 0)] (by kernel_rfl) (fun _ _ _ => by kernel_rfl))))
 (fun h => by_way (.le (.c 0) (.a 24)) (.ge (.a 24) 0) (.le (.a 24) (-1)) rfl rfl h (fun h => lcG s_checkZ h [(.c 2)] (by kernel_rfl) (fun _ _ _ => by kernel_rfl))
 (fun h => lcG s_checkZ h [(.c 0)] (by kernel_rfl) (fun _ _ _ => by kernel_rfl))))
 (fun h => by_eq 22 0 h (fun h => lcG s_checkZ h [(.c 2)] (by kernel_rfl) (fun _ _ _ => by kernel_rfl))
 (fun h => lcG s_checkZ h [(.c 2)] (by kernel_rfl) (fun _ _ _ => by kernel_rfl)))

theorem checkZ_15 (val : Nat → Int) (h : Holds val [tN 25 1, tN 25 0, tN 26 1, .le (.a 24) 7, .ge (.a 24) (-1), .le (.a 23) 255, .ge (.a 23) 0, .le (.a 22) 3, .ge (.a 22) 0, .le (.a 21) 5, .ge (.a 21) 0, tI 614 1, tI 11 0, tI 13 0]) : CheckZ val := by_eq 22 0 h (fun h => lcG s_checkZ h [(.c 2)] (by kernel_rfl) (fun _ _ _ => by kernel_rfl))
 (fun h => lcG s_checkZ h [(.c 2)] (by kernel_rfl) (fun _ _ _ => by kernel_rfl))

theorem checkZ_16 (val : Nat → Int) (h : Holds val [tN 614 1, tI 11 0, tI 13 0]) : CheckZ val := lcG s_checkZ h [(.c 6)] (by kernel_rfl) (fun _ _ _ => by kernel_rfl)

theorem checkZ (val : Nat → Int) (h : Holds val [.is (.a 11) 0, .is (.a 13) 0]) : CheckZ val := by_eq 614 1 h (fun h => by_way (.lt (.a 21) (.c 0)) (.le (.a 21) (-1)) (.ge (.a 21) 0) rfl rfl h (fun h => checkZ_0 val h)
 (fun h => by_way (.lt (.c 5) (.a 21)) (.ge (.a 21) 6) (.le (.a 21) 5) rfl rfl h (fun h => checkZ_1 val h)
 (fun h => by_way (.lt (.a 22) (.c 0)) (.le (.a 22) (-1)) (.ge (.a 22) 0) rfl rfl h (fun h => checkZ_2 val h)
 (fun h => by_way (.lt (.c 3) (.a 22)) (.ge (.a 22) 4) (.le (.a 22) 3) rfl rfl h (fun h => checkZ_3 val h)
 (fun h => by_way (.lt (.a 23) (.c 0)) (.le (.a 23) (-1)) (.ge (.a 23) 0) rfl rfl h (fun h => checkZ_4 val h)
 (fun h => by_way (.lt (.c 255) (.a 23)) (.ge (.a 23) 256) (.le (.a 23) 255) rfl rfl h (fun h => checkZ_5 val h)
 (fun h => by_way (.lt (.a 24) (.c (-1))) (.le (.a 24) (-2)) (.ge (.a 24) (-1)) rfl rfl h (fun h => checkZ_6 val h)
 (fun h => by_way (.lt (.c 7) (.a 24)) (.ge (.a 24) 8) (.le (.a 24) 7) rfl rfl h (fun h => checkZ_7 val h)
 (fun h => by_eq 26 1 h (fun h => by_eq 21 0 h (fun h => checkZ_8 val h)
 (fun h => by_eq 21 1 h (fun h => checkZ_9 val h)
 (fun h => by_eq 21 2 h (fun h => checkZ_10 val h)
 (fun h => by_eq 21 4 h (fun h => checkZ_11 val h)
 (fun h => checkZ_12 val h)))))
 (fun h => by_eq 25 0 h (fun h => checkZ_13 val h)
 (fun h => by_eq 25 1 h (fun h => checkZ_14 val h)
 (fun h => checkZ_15 val h))))))))))))
 (fun h => checkZ_16 val h)

theorem slot2_0 (val : Nat → Int) (h : Holds val [.ge (.a 13) 1, .ge (.a 11) 0, .ge (.a 13) 0, .at (.le (.a 11) (.a 12)) true, .at (.le (.a 13) (.a 14)) true, .le (.a 13) 4]) : Slot2 val := by_way (.eq (.c 2) (.a 500)) (tI 500 2) (tN 500 2) rfl rfl h (fun h => lcG s_slot2 h [(.c 0)] (by kernel_rfl) (fun _ _ _ => by kernel_rfl))
 (fun h => by_way (.lt (.c 1) (.a 13)) (.ge (.a 13) 2) (.le (.a 13) 1) rfl rfl h (fun h => by_way (.eq (.c 2) (.a 501)) (tI 501 2) (tN 501 2) rfl rfl h (fun h => lcG s_slot2 h [(.c 1)] (by kernel_rfl) (fun _ _ _ => by kernel_rfl))
 (fun h => by_way (.lt (.c 2) (.a 13)) (.ge (.a 13) 3) (.le (.a 13) 2) rfl rfl h (fun h => by_way (.eq (.c 2) (.a 502)) (tI 502 2) (tN 502 2) rfl rfl h (fun h => lcG s_slot2 h [(.c 2)] (by kernel_rfl) (fun _ _ _ => by kernel_rfl))
 (fun h => by_way (.lt (.c 3) (.a 13)) (.ge (.a 13) 4) (.le (.a 13) 3) rfl rfl h (fun h => by_way (.eq (.c 2) (.a 503)) (tI 503 2) (tN 503 2) rfl rfl h (fun h => lcG s_slot2 h [(.c 3)] (by kernel_rfl) (fun _ _ _ => by kernel_rfl))
 (fun h => lcG s_slot2 h [(.c (-1))] (by kernel_rfl) (fun _ _ _ => by kernel_rfl)))
 (fun h => lcG s_slot2 h [(.c (-1))] (by kernel_rfl) (fun _ _ _ => by kernel_rfl))))
 (fun h => lcG s_slot2 h [(.c (-1))] (by kernel_rfl) (fun _ _ _ => by kernel_rfl))))
 (fun h => lcG s_slot2 h [(.c (-1))] (by kernel_rfl) (fun _ _ _ => by kernel_rfl)))

theorem slot2_1 (val : Nat → Int) (h : Holds val [.le (.a 13) 0, .ge (.a 11) 0, .ge (.a 13) 0, .at (.le (.a 11) (.a 12)) true, .at (.le (.a 13) (.a 14)) true, .le (.a 13) 4]) : Slot2 val := lcG s_slot2 h [(.c (-1))] (by kernel_rfl) (fun _ _ _ => by kernel_rfl)

theorem slot2 (val : Nat → Int) (h : Holds val [.ge (.a 11) 0, .ge (.a 13) 0, .at (.le (.a 11) (.a 12)) true, .at (.le (.a 13) (.a 14)) true, .le (.a 13) 4]) : Slot2 val := by_way (.lt (.c 0) (.a 13)) (.ge (.a 13) 1) (.le (.a 13) 0) rfl rfl h (fun h => slot2_0 val h)
 (fun h => slot2_1 val h)

theorem slot7_0 (val : Nat → Int) (h : Holds val [.ge (.a 13) 1, .ge (.a 11) 0, .ge (.a 13) 0, .at (.le (.a 11) (.a 12)) true, .at (.le (.a 13) (.a 14)) true, .le (.a 13) 4]) : Slot7 val := by_way (.eq (.c 7) (.a 500)) (tI 500 7) (tN 500 7) rfl rfl h (fun h => lcG s_slot7 h [(.c 0)] (by kernel_rfl) (fun _ _ _ => by kernel_rfl))
 (fun h => by_way (.lt (.c 1) (.a 13)) (.ge (.a 13) 2) (.le (.a 13) 1) rfl rfl h (fun h => by_way (.eq (.c 7) (.a 501)) (tI 501 7) (tN 501 7) rfl rfl h (fun h => lcG s_slot7 h [(.c 1)] (by kernel_rfl) (fun _ _ _ => by kernel_rfl))
 (fun h => by_way (.lt (.c 2) (.a 13)) (.ge (.a 13) 3) (.le (.a 13) 2) rfl rfl h (fun h => by_way (.eq (.c 7) (.a 502)) (tI 502 7) (tN 502 7) rfl rfl h (fun h => lcG s_slot7 h [(.c 2)] (by kernel_rfl) (fun _ _ _ => by kernel_rfl))
 (fun h => by_way (.lt (.c 3) (.a 13)) (.ge (.a 13) 4) (.le (.a 13) 3) rfl rfl h (fun h => by_way (.eq (.c 7) (.a 503)) (tI 503 7) (tN 503 7) rfl rfl h (fun h => lcG s_slot7 h [(.c 3)] (by kernel_rfl) (fun _ _ _ => by kernel_rfl))
 (fun h => lcG s_slot7 h [(.c (-1))] (by kernel_rfl) (fun _ _ _ => by kernel_rfl)))
 (fun h => lcG s_slot7 h [(.c (-1))] (by kernel_rfl) (fun _ _ _ => by kernel_rfl))))
 (fun h => lcG s_slot7 h [(.c (-1))] (by kernel_rfl) (fun _ _ _ => by kernel_rfl))))
 (fun h => lcG s_slot7 h [(.c (-1))] (by kernel_rfl) (fun _ _ _ => by kernel_rfl)))

theorem slot7_1 (val : Nat → Int) (h : Holds val [.le (.a 13) 0, .ge (.a 11) 0, .ge (.a 13) 0, .at (.le (.a 11) (.a 12)) true, .at (.le (.a 13) (.a 14)) true, .le (.a 13) 4]) : Slot7 val := lcG s_slot7 h [(.c (-1))] (by kernel_rfl) (fun _ _ _ => by kernel_rfl)

theorem slot7 (val : Nat → Int) (h : Holds val [.ge (.a 11) 0, .ge (.a 13) 0, .at (.le (.a 11) (.a 12)) true, .at (.le (.a 13) (.a 14)) true, .le (.a 13) 4]) : Slot7 val := by_way (.lt (.c 0) (.a 13)) (.ge (.a 13) 1) (.le (.a 13) 0) rfl rfl h (fun h => slot7_0 val h)
 (fun h => slot7_1 val h)


theorem once2 (val : Nat → Int) (h : Holds val [.is (.a 13) 2, .ge (.a 14) 2]) : Once2 val := by_eq 500 6 h (fun h => by_eq 501 6 h (fun h => lcG s_once2 h [(.c 1)] (by kernel_rfl) (fun _ _ _ => by kernel_rfl))
 (fun h => lcG s_once2 h [(.c 1)] (by kernel_rfl) (fun _ _ _ => by kernel_rfl)))
 (fun h => by_eq 501 6 h (fun h => lcG s_once2 h [(.c 1)] (by kernel_rfl) (fun _ _ _ => by kernel_rfl))
 (fun h => by_e2 501 500 h (fun h => lcG s_once2 h [(.c 0)] (by kernel_rfl) (fun _ _ _ => by kernel_rfl))
 (fun h => lcG s_once2 h [(.c 1)] (by kernel_rfl) (fun _ _ _ => by kernel_rfl))))


theorem fit9 (val : Nat → Int) : FitC 9 val :=
  have h : Holds val [] := holds_nil
  by_eq 0 1 h (fun h => by_eq 1 4 h (fun h => lcG sf9 h [(.c 1)] (by kernel_rfl) (fun _ _ _ => by kernel_rfl))
 (fun h => lcG sf9 h [(.c 0)] (by kernel_rfl) (fun _ _ _ => by kernel_rfl)))
 (fun h => by_eq 0 2 h (fun h => by_eq 9 4 h (fun h => lcG sf9 h [(.c 1)] (by kernel_rfl) (fun _ _ _ => by kernel_rfl))
 (fun h => lcG sf9 h [(.c 0)] (by kernel_rfl) (fun _ _ _ => by kernel_rfl)))
 (fun h => lcG sf9 h [(.c 0)] (by kernel_rfl) (fun _ _ _ => by kernel_rfl)))


theorem fit12 (val : Nat → Int) : FitC 12 val :=
  have h : Holds val [] := holds_nil
  by_eq 0 1 h (fun h => by_eq 1 6 h (fun h => lcG sf12 h [(.c 1)] (by kernel_rfl) (fun _ _ _ => by kernel_rfl))
 (fun h => lcG sf12 h [(.c 0)] (by kernel_rfl) (fun _ _ _ => by kernel_rfl)))
 (fun h => by_eq 0 2 h (fun h => by_eq 9 8 h (fun h => lcG sf12 h [(.c 1)] (by kernel_rfl) (fun _ _ _ => by kernel_rfl))
 (fun h => lcG sf12 h [(.c 0)] (by kernel_rfl) (fun _ _ _ => by kernel_rfl)))
 (fun h => lcG sf12 h [(.c 0)] (by kernel_rfl) (fun _ _ _ => by kernel_rfl)))


theorem fit1 (val : Nat → Int) : FitC 1 val :=
  have h : Holds val [] := holds_nil
  by_eq 0 1 h (fun h => by_eq 1 1 h (fun h => lcG sf1 h [(.c 1)] (by kernel_rfl) (fun _ _ _ => by kernel_rfl))
 (fun h => by_eq 1 2 h (fun h => lcG sf1 h [(.c 1)] (by kernel_rfl) (fun _ _ _ => by kernel_rfl))
 (fun h => lcG sf1 h [(.c 0)] (by kernel_rfl) (fun _ _ _ => by kernel_rfl))))
 (fun h => lcG sf1 h [(.c 0)] (by kernel_rfl) (fun _ _ _ => by kernel_rfl))


theorem fit26 (val : Nat → Int) : FitC 26 val :=
  have h : Holds val [] := holds_nil
  by_eq 0 4 h (fun h => by_way (.le (.c (-128)) (.a 10)) (.ge (.a 10) (-128)) (.le (.a 10) (-129)) rfl rfl h (fun h => by_way (.le (.a 10) (.c 127)) (.le (.a 10) 127) (.ge (.a 10) 128) rfl rfl h (fun h => lcG sf26 h [(.c 1)] (by kernel_rfl) (fun _ _ _ => by kernel_rfl))
 (fun h => lcG sf26 h [(.c 0)] (by kernel_rfl) (fun _ _ _ => by kernel_rfl)))
 (fun h => lcG sf26 h [(.c 0)] (by kernel_rfl) (fun _ _ _ => by kernel_rfl)))
 (fun h => lcG sf26 h [(.c 0)] (by kernel_rfl) (fun _ _ _ => by kernel_rfl))


theorem fit30 (val : Nat → Int) : FitC 30 val :=
  have h : Holds val [] := holds_nil
  by_eq 0 1 h (fun h => by_eq 1 4 h (fun h => by_eq 2 0 h (fun h => lcG sf30 h [(.c 1)] (by kernel_rfl) (fun _ _ _ => by kernel_rfl))
 (fun h => lcG sf30 h [(.c 0)] (by kernel_rfl) (fun _ _ _ => by kernel_rfl)))
 (fun h => lcG sf30 h [(.c 0)] (by kernel_rfl) (fun _ _ _ => by kernel_rfl)))
 (fun h => lcG sf30 h [(.c 0)] (by kernel_rfl) (fun _ _ _ => by kernel_rfl))


theorem fit2 (val : Nat → Int) : FitC 2 val :=
  have h : Holds val [] := holds_nil
  by_eq 0 1 h (fun h => by_eq 1 3 h (fun h => lcG sf2 h [(.c 1)] (by kernel_rfl) (fun _ _ _ => by kernel_rfl))
 (fun h => lcG sf2 h [(.c 0)] (by kernel_rfl) (fun _ _ _ => by kernel_rfl)))
 (fun h => lcG sf2 h [(.c 0)] (by kernel_rfl) (fun _ _ _ => by kernel_rfl))


theorem fit4 (val : Nat → Int) : FitC 4 val :=
  have h : Holds val [] := holds_nil
  by_eq 0 1 h (fun h => by_eq 1 5 h (fun h => lcG sf4 h [(.c 1)] (by kernel_rfl) (fun _ _ _ => by kernel_rfl))
 (fun h => lcG sf4 h [(.c 0)] (by kernel_rfl) (fun _ _ _ => by kernel_rfl)))
 (fun h => lcG sf4 h [(.c 0)] (by kernel_rfl) (fun _ _ _ => by kernel_rfl))


theorem fit15 (val : Nat → Int) : FitC 15 val :=
  have h : Holds val [] := holds_nil
  by_eq 0 2 h (fun h => by_eq 9 0 h (fun h => lcG sf15 h [(.c 1)] (by kernel_rfl) (fun _ _ _ => by kernel_rfl))
 (fun h => lcG sf15 h [(.c 0)] (by kernel_rfl) (fun _ _ _ => by kernel_rfl)))
 (fun h => lcG sf15 h [(.c 0)] (by kernel_rfl) (fun _ _ _ => by kernel_rfl))


theorem fit18 (val : Nat → Int) : FitC 18 val :=
  have h : Holds val [] := holds_nil
  by_eq 0 2 h (fun h => by_eq 9 16 h (fun h => lcG sf18 h [(.c 1)] (by kernel_rfl) (fun _ _ _ => by kernel_rfl))
 (fun h => lcG sf18 h [(.c 0)] (by kernel_rfl) (fun _ _ _ => by kernel_rfl)))
 (fun h => lcG sf18 h [(.c 0)] (by kernel_rfl) (fun _ _ _ => by kernel_rfl))


theorem fit34 (val : Nat → Int) : FitC 34 val :=
  have h : Holds val [] := holds_nil
  by_eq 0 2 h (fun h => by_eq 9 2 h (fun h => lcG sf34 h [(.c 1)] (by kernel_rfl) (fun _ _ _ => by kernel_rfl))
 (fun h => lcG sf34 h [(.c 0)] (by kernel_rfl) (fun _ _ _ => by kernel_rfl)))
 (fun h => lcG sf34 h [(.c 0)] (by kernel_rfl) (fun _ _ _ => by kernel_rfl))


theorem fit20 (val : Nat → Int) : FitC 20 val :=
  have h : Holds val [] := holds_nil
  by_eq 11 8 h (fun h => lcG sf20 h [(.c 1)] (by kernel_rfl) (fun _ _ _ => by kernel_rfl))
 (fun h => lcG sf20 h [(.c 0)] (by kernel_rfl) (fun _ _ _ => by kernel_rfl))


theorem fit25 (val : Nat → Int) : FitC 25 val :=
  have h : Holds val [] := holds_nil
  by_eq 11 64 h (fun h => lcG sf25 h [(.c 1)] (by kernel_rfl) (fun _ _ _ => by kernel_rfl))
 (fun h => lcG sf25 h [(.c 0)] (by kernel_rfl) (fun _ _ _ => by kernel_rfl))


theorem fit0 (val : Nat → Int) : FitC 0 val :=
  have h : Holds val [] := holds_nil
  lcG sf0 h [(.c 0)] (by kernel_rfl) (fun _ _ _ => by kernel_rfl)

end Go.Proofs.Ytlggmhchgicjkaa.Tab
