/-
  Ways through the code, part 2.
-/
import Derived.Test.YtlggmhchgicjkaaShpH
namespace Go.Proofs.Ytlggmhchgicjkaa.Tab
open Go.Sim
set_option maxRecDepth 100000
set_option linter.unusedSimpArgs false
set_option maxHeartbeats 4000000

theorem prefixed_0 (val : Nat → Int) (h : Holds val [tI 21 0, tI 26 1, .ge (.a 11) 0, .ge (.a 13) 0, .at (.le (.a 11) (.a 12)) true, .at (.le (.a 13) (.a 14)) true]) : Prefixed val := by_eq 22 0 h (fun h => lcG s_prefixed h [(.c 0)] (by kernel_rfl) (fun _ _ _ => by kernel_rfl))
 (fun h => by_way (.le (.c (-1)) (.a 25)) (.ge (.a 25) (-1)) (.le (.a 25) (-2)) rfl rfl h (fun h => by_way (.le (.a 25) (.c 1)) (.le (.a 25) 1) (.ge (.a 25) 2) rfl rfl h (fun h => by_eq 27 0 h (fun h => lcG s_prefixed h [(.c 1)] (by kernel_rfl) (fun _ _ _ => by kernel_rfl))
 (fun h => by_eq 27 1 h (fun h => lcG s_prefixed h [(.c 1)] (by kernel_rfl) (fun _ _ _ => by kernel_rfl))
 (fun h => lcG s_prefixed h [(.c 0)] (by kernel_rfl) (fun _ _ _ => by kernel_rfl))))
 (fun h => lcG s_prefixed h [(.c 0)] (by kernel_rfl) (fun _ _ _ => by kernel_rfl)))
 (fun h => lcG s_prefixed h [(.c 0)] (by kernel_rfl) (fun _ _ _ => by kernel_rfl)))

theorem prefixed_1 (val : Nat → Int) (h : Holds val [tI 21 1, tN 21 0, tI 26 1, .ge (.a 11) 0, .ge (.a 13) 0, .at (.le (.a 11) (.a 12)) true, .at (.le (.a 13) (.a 14)) true]) : Prefixed val := by_eq 22 0 h (fun h => lcG s_prefixed h [(.c 0)] (by kernel_rfl) (fun _ _ _ => by kernel_rfl))
 (fun h => by_way (.le (.c (-1)) (.a 25)) (.ge (.a 25) (-1)) (.le (.a 25) (-2)) rfl rfl h (fun h => by_way (.le (.a 25) (.c 1)) (.le (.a 25) 1) (.ge (.a 25) 2) rfl rfl h (fun h => by_eq 27 0 h (fun h => lcG s_prefixed h [(.c 1)] (by kernel_rfl) (fun _ _ _ => by kernel_rfl))
 (fun h => by_eq 27 1 h (fun h => lcG s_prefixed h [(.c 1)] (by kernel_rfl) (fun _ _ _ => by kernel_rfl))
 (fun h => lcG s_prefixed h [(.c 0)] (by kernel_rfl) (fun _ _ _ => by kernel_rfl))))
 (fun h => lcG s_prefixed h [(.c 0)] (by kernel_rfl) (fun _ _ _ => by kernel_rfl)))
 (fun h => lcG s_prefixed h [(.c 0)] (by kernel_rfl) (fun _ _ _ => by kernel_rfl)))

theorem prefixed_2 (val : Nat → Int) (h : Holds val [tI 21 2, tN 21 1, tN 21 0, tI 26 1, .ge (.a 11) 0, .ge (.a 13) 0, .at (.le (.a 11) (.a 12)) true, .at (.le (.a 13) (.a 14)) true]) : Prefixed val := by_eq 22 0 h (fun h => lcG s_prefixed h [(.c 0)] (by kernel_rfl) (fun _ _ _ => by kernel_rfl))
 (fun h => by_way (.le (.c (-1)) (.a 25)) (.ge (.a 25) (-1)) (.le (.a 25) (-2)) rfl rfl h (fun h => by_way (.le (.a 25) (.c 1)) (.le (.a 25) 1) (.ge (.a 25) 2) rfl rfl h (fun h => by_eq 27 0 h (fun h => lcG s_prefixed h [(.c 1)] (by kernel_rfl) (fun _ _ _ => by kernel_rfl))
 (fun h => by_eq 27 1 h (fun h => lcG s_prefixed h [(.c 1)] (by kernel_rfl) (fun _ _ _ => by kernel_rfl))
 (fun h => lcG s_prefixed h [(.c 0)] (by kernel_rfl) (fun _ _ _ => by kernel_rfl))))
 (fun h => lcG s_prefixed h [(.c 0)] (by kernel_rfl) (fun _ _ _ => by kernel_rfl)))
 (fun h => lcG s_prefixed h [(.c 0)] (by kernel_rfl) (fun _ _ _ => by kernel_rfl)))

theorem prefixed_3 (val : Nat → Int) (h : Holds val [tN 21 2, tN 21 1, tN 21 0, tI 26 1, .ge (.a 11) 0, .ge (.a 13) 0, .at (.le (.a 11) (.a 12)) true, .at (.le (.a 13) (.a 14)) true]) : Prefixed val := by_eq 21 4 h (fun h => by_eq 22 0 h (fun h => lcG s_prefixed h [(.c 0)] (by kernel_rfl) (fun _ _ _ => by kernel_rfl))
 (fun h => by_way (.le (.c (-1)) (.a 25)) (.ge (.a 25) (-1)) (.le (.a 25) (-2)) rfl rfl h (fun h => by_way (.le (.a 25) (.c 1)) (.le (.a 25) 1) (.ge (.a 25) 2) rfl rfl h (fun h => by_eq 27 0 h (fun h => lcG s_prefixed h [(.c 1)] (by kernel_rfl) (fun _ _ _ => by kernel_rfl))
 (fun h => by_eq 27 1 h (fun h => lcG s_prefixed h [(.c 1)] (by kernel_rfl) (fun _ _ _ => by kernel_rfl))
 (fun h => lcG s_prefixed h [(.c 0)] (by kernel_rfl) (fun _ _ _ => by kernel_rfl))))
 (fun h => lcG s_prefixed h [(.c 0)] (by kernel_rfl) (fun _ _ _ => by kernel_rfl)))
 (fun h => lcG s_prefixed h [(.c 0)] (by kernel_rfl) (fun _ _ _ => by kernel_rfl))))
 (fun h => lcG s_prefixed h [(.c 0)] (by kernel_rfl) (fun _ _ _ => by kernel_rfl))

theorem prefixed_4 (val : Nat → Int) (h : Holds val [tI 25 0, tN 26 1, .ge (.a 11) 0, .ge (.a 13) 0, .at (.le (.a 11) (.a 12)) true, .at (.le (.a 13) (.a 14)) true]) : Prefixed val := by_eq 27 0 h (fun h => by_way (.lt (.a 603) (.c 0)) (.le (.a 603) (-1)) (.ge (.a 603) 0) rfl rfl h (fun h => by_way (.lt (.a 607) (.c 0)) (.le (.a 607) (-1)) (.ge (.a 607) 0) rfl rfl h (fun h => lcG s_prefixed h [(.c 1)] (by kernel_rfl) (fun _ _ _ => by kernel_rfl))
 (fun h => lcG s_prefixed h [(.c 0)] (by kernel_rfl) (fun _ _ _ => by kernel_rfl)))
 (fun h => lcG s_prefixed h [(.c 0)] (by kernel_rfl) (fun _ _ _ => by kernel_rfl)))
 (fun h => lcG s_prefixed h [(.c 0)] (by kernel_rfl) (fun _ _ _ => by kernel_rfl))

theorem prefixed_5 (val : Nat → Int) (h : Holds val [tN 25 0, tN 26 1, .ge (.a 11) 0, .ge (.a 13) 0, .at (.le (.a 11) (.a 12)) true, .at (.le (.a 13) (.a 14)) true]) : Prefixed val := by_eq 25 1 h (fun h => by_eq 27 0 h (fun h => by_way (.lt (.a 603) (.c 0)) (.le (.a 603) (-1)) (.ge (.a 603) 0) rfl rfl h (fun h => by_way (.lt (.a 607) (.c 0)) (.le (.a 607) (-1)) (.ge (.a 607) 0) rfl rfl h (fun h => lcG s_prefixed h [(.c 1)] (by kernel_rfl) (fun _ _ _ => by kernel_rfl))
 (fun h => lcG s_prefixed h [(.c 0)] (by kernel_rfl) (fun _ _ _ => by kernel_rfl)))
 (fun h => lcG s_prefixed h [(.c 0)] (by kernel_rfl) (fun _ _ _ => by kernel_rfl)))
 (fun h => lcG s_prefixed h [(.c 0)] (by kernel_rfl) (fun _ _ _ => by kernel_rfl)))
 (fun h => lcG s_prefixed h [(.c 0)] (by kernel_rfl) (fun _ _ _ => by kernel_rfl))

theorem prefixed (val : Nat → Int) (h : Holds val [.ge (.a 11) 0, .ge (.a 13) 0, .at (.le (.a 11) (.a 12)) true, .at (.le (.a 13) (.a 14)) true]) : Prefixed val := by_eq 26 1 h (fun h => by_eq 21 0 h (fun h => prefixed_0 val h)
 (fun h => by_eq 21 1 h (fun h => prefixed_1 val h)
 (fun h => by_eq 21 2 h (fun h => prefixed_2 val h)
 (fun h => prefixed_3 val h))))
 (fun h => by_eq 25 0 h (fun h => prefixed_4 val h)
 (fun h => prefixed_5 val h))

theorem matched_0 (val : Nat → Int) (h : Holds val [.ge (.a 13) 3, tI 621 1, .ge (.a 11) 2, .ge (.a 13) 2, tI 620 1, .ge (.a 11) 1, .ge (.a 13) 1, tE 11 13, .ge (.a 11) 0, .ge (.a 13) 0, .at (.le (.a 11) (.a 12)) true, .at (.le (.a 13) (.a 14)) true, .le (.a 11) 4, .le (.a 13) 4]) : Matched val := by_way (.lt (.c 2) (.a 11)) (.ge (.a 11) 3) (.le (.a 11) 2) rfl rfl h (fun h => by_eq 622 1 h (fun h => by_way (.lt (.c 3) (.a 13)) (.ge (.a 13) 4) (.le (.a 13) 3) rfl rfl h (fun h => by_eq 11 4 h (fun h => by_eq 623 1 h (fun h => lcG s_matched h [(.c 1)] (by kernel_rfl) (fun _ _ _ => by kernel_rfl))
 (fun h => lcG s_matched h [(.c 0)] (by kernel_rfl) (fun _ _ _ => by kernel_rfl)))
 (fun h => lcG s_matched h [(.c 0)] (by kernel_rfl) (fun _ _ _ => by kernel_rfl)))
 (fun h => by_eq 11 3 h (fun h => lcG s_matched h [(.c 1)] (by kernel_rfl) (fun _ _ _ => by kernel_rfl))
 (fun h => lcG s_matched h [(.c 0)] (by kernel_rfl) (fun _ _ _ => by kernel_rfl))))
 (fun h => lcG s_matched h [(.c 0)] (by kernel_rfl) (fun _ _ _ => by kernel_rfl)))
 (fun h => lcG s_matched h [(.c 0)] (by kernel_rfl) (fun _ _ _ => by kernel_rfl))

theorem matched_1 (val : Nat → Int) (h : Holds val [.le (.a 13) 2, tI 621 1, .ge (.a 11) 2, .ge (.a 13) 2, tI 620 1, .ge (.a 11) 1, .ge (.a 13) 1, tE 11 13, .ge (.a 11) 0, .ge (.a 13) 0, .at (.le (.a 11) (.a 12)) true, .at (.le (.a 13) (.a 14)) true, .le (.a 11) 4, .le (.a 13) 4]) : Matched val := by_eq 11 2 h (fun h => lcG s_matched h [(.c 1)] (by kernel_rfl) (fun _ _ _ => by kernel_rfl))
 (fun h => lcG s_matched h [(.c 0)] (by kernel_rfl) (fun _ _ _ => by kernel_rfl))

theorem matched_2 (val : Nat → Int) (h : Holds val [tN 621 1, .ge (.a 11) 2, .ge (.a 13) 2, tI 620 1, .ge (.a 11) 1, .ge (.a 13) 1, tE 11 13, .ge (.a 11) 0, .ge (.a 13) 0, .at (.le (.a 11) (.a 12)) true, .at (.le (.a 13) (.a 14)) true, .le (.a 11) 4, .le (.a 13) 4]) : Matched val := lcG s_matched h [(.c 0)] (by kernel_rfl) (fun _ _ _ => by kernel_rfl)

theorem matched_3 (val : Nat → Int) (h : Holds val [.le (.a 11) 1, .ge (.a 13) 2, tI 620 1, .ge (.a 11) 1, .ge (.a 13) 1, tE 11 13, .ge (.a 11) 0, .ge (.a 13) 0, .at (.le (.a 11) (.a 12)) true, .at (.le (.a 13) (.a 14)) true, .le (.a 11) 4, .le (.a 13) 4]) : Matched val := lcG s_matched h [(.c 0)] (by kernel_rfl) (fun _ _ _ => by kernel_rfl)

theorem matched_4 (val : Nat → Int) (h : Holds val [.le (.a 13) 1, tI 620 1, .ge (.a 11) 1, .ge (.a 13) 1, tE 11 13, .ge (.a 11) 0, .ge (.a 13) 0, .at (.le (.a 11) (.a 12)) true, .at (.le (.a 13) (.a 14)) true, .le (.a 11) 4, .le (.a 13) 4]) : Matched val := by_eq 11 1 h (fun h => lcG s_matched h [(.c 1)] (by kernel_rfl) (fun _ _ _ => by kernel_rfl))
 (fun h => lcG s_matched h [(.c 0)] (by kernel_rfl) (fun _ _ _ => by kernel_rfl))

theorem matched_5 (val : Nat → Int) (h : Holds val [tN 620 1, .ge (.a 11) 1, .ge (.a 13) 1, tE 11 13, .ge (.a 11) 0, .ge (.a 13) 0, .at (.le (.a 11) (.a 12)) true, .at (.le (.a 13) (.a 14)) true, .le (.a 11) 4, .le (.a 13) 4]) : Matched val := lcG s_matched h [(.c 0)] (by kernel_rfl) (fun _ _ _ => by kernel_rfl)

theorem matched_6 (val : Nat → Int) (h : Holds val [.le (.a 11) 0, .ge (.a 13) 1, tE 11 13, .ge (.a 11) 0, .ge (.a 13) 0, .at (.le (.a 11) (.a 12)) true, .at (.le (.a 13) (.a 14)) true, .le (.a 11) 4, .le (.a 13) 4]) : Matched val := lcG s_matched h [(.c 0)] (by kernel_rfl) (fun _ _ _ => by kernel_rfl)

theorem matched_7 (val : Nat → Int) (h : Holds val [.le (.a 13) 0, tE 11 13, .ge (.a 11) 0, .ge (.a 13) 0, .at (.le (.a 11) (.a 12)) true, .at (.le (.a 13) (.a 14)) true, .le (.a 11) 4, .le (.a 13) 4]) : Matched val := by_eq 11 0 h (fun h => lcG s_matched h [(.c 1)] (by kernel_rfl) (fun _ _ _ => by kernel_rfl))
 (fun h => lcG s_matched h [(.c 0)] (by kernel_rfl) (fun _ _ _ => by kernel_rfl))

theorem matched_8 (val : Nat → Int) (h : Holds val [tD 11 13, .ge (.a 11) 0, .ge (.a 13) 0, .at (.le (.a 11) (.a 12)) true, .at (.le (.a 13) (.a 14)) true, .le (.a 11) 4, .le (.a 13) 4]) : Matched val := lcG s_matched h [(.c 0)] (by kernel_rfl) (fun _ _ _ => by kernel_rfl)

theorem matched (val : Nat → Int) (h : Holds val [.ge (.a 11) 0, .ge (.a 13) 0, .at (.le (.a 11) (.a 12)) true, .at (.le (.a 13) (.a 14)) true, .le (.a 11) 4, .le (.a 13) 4]) : Matched val := by_e2 11 13 h (fun h => by_way (.lt (.c 0) (.a 13)) (.ge (.a 13) 1) (.le (.a 13) 0) rfl rfl h (fun h => by_way (.lt (.c 0) (.a 11)) (.ge (.a 11) 1) (.le (.a 11) 0) rfl rfl h (fun h => by_eq 620 1 h (fun h => by_way (.lt (.c 1) (.a 13)) (.ge (.a 13) 2) (.le (.a 13) 1) rfl rfl h (fun h => by_way (.lt (.c 1) (.a 11)) (.ge (.a 11) 2) (.le (.a 11) 1) rfl rfl h (fun h => by_eq 621 1 h (fun h => by_way (.lt (.c 2) (.a 13)) (.ge (.a 13) 3) (.le (.a 13) 2) rfl rfl h (fun h => matched_0 val h)
 (fun h => matched_1 val h))
 (fun h => matched_2 val h))
 (fun h => matched_3 val h))
 (fun h => matched_4 val h))
 (fun h => matched_5 val h))
 (fun h => matched_6 val h))
 (fun h => matched_7 val h))
 (fun h => matched_8 val h)

theorem once3_0 (val : Nat → Int) (h : Holds val [tI 500 6, tI 13 3, .ge (.a 14) 3]) : Once3 val := by_eq 501 6 h (fun h => by_eq 502 6 h (fun h => lcG s_once3 h [(.c 1)] (by kernel_rfl) (fun _ _ _ => by kernel_rfl))
 (fun h => lcG s_once3 h [(.c 1)] (by kernel_rfl) (fun _ _ _ => by kernel_rfl)))
 (fun h => by_eq 502 6 h (fun h => lcG s_once3 h [(.c 1)] (by kernel_rfl) (fun _ _ _ => by kernel_rfl))
 (fun h => by_e2 502 501 h (fun h => lcG s_once3 h [(.c 0)] (by kernel_rfl) (fun _ _ _ => by kernel_rfl))
 (fun h => lcG s_once3 h [(.c 1)] (by kernel_rfl) (fun _ _ _ => by kernel_rfl))))

theorem once3_1 (val : Nat → Int) (h : Holds val [tN 500 6, tI 13 3, .ge (.a 14) 3]) : Once3 val := by_eq 501 6 h (fun h => by_eq 502 6 h (fun h => lcG s_once3 h [(.c 1)] (by kernel_rfl) (fun _ _ _ => by kernel_rfl))
 (fun h => by_e2 502 500 h (fun h => lcG s_once3 h [(.c 0)] (by kernel_rfl) (fun _ _ _ => by kernel_rfl))
 (fun h => lcG s_once3 h [(.c 1)] (by kernel_rfl) (fun _ _ _ => by kernel_rfl))))
 (fun h => by_e2 501 500 h (fun h => lcG s_once3 h [(.c 0)] (by kernel_rfl) (fun _ _ _ => by kernel_rfl))
 (fun h => by_eq 502 6 h (fun h => lcG s_once3 h [(.c 1)] (by kernel_rfl) (fun _ _ _ => by kernel_rfl))
 (fun h => by_e2 502 500 h (fun h => lcG s_once3 h [(.c 0)] (by kernel_rfl) (fun _ _ _ => by kernel_rfl))
 (fun h => by_e2 502 501 h (fun h => lcG s_once3 h [(.c 0)] (by kernel_rfl) (fun _ _ _ => by kernel_rfl))
 (fun h => lcG s_once3 h [(.c 1)] (by kernel_rfl) (fun _ _ _ => by kernel_rfl))))))

theorem once3 (val : Nat → Int) (h : Holds val [.is (.a 13) 3, .ge (.a 14) 3]) : Once3 val := by_eq 500 6 h (fun h => once3_0 val h)
 (fun h => once3_1 val h)

theorem slot3_0 (val : Nat → Int) (h : Holds val [.ge (.a 13) 1, .ge (.a 11) 0, .ge (.a 13) 0, .at (.le (.a 11) (.a 12)) true, .at (.le (.a 13) (.a 14)) true, .le (.a 13) 4]) : Slot3 val := by_way (.eq (.c 3) (.a 500)) (tI 500 3) (tN 500 3) rfl rfl h (fun h => lcG s_slot3 h [(.c 0)] (by kernel_rfl) (fun _ _ _ => by kernel_rfl))
 (fun h => by_way (.lt (.c 1) (.a 13)) (.ge (.a 13) 2) (.le (.a 13) 1) rfl rfl h (fun h => by_way (.eq (.c 3) (.a 501)) (tI 501 3) (tN 501 3) rfl rfl h (fun h => lcG s_slot3 h [(.c 1)] (by kernel_rfl) (fun _ _ _ => by kernel_rfl))
 (fun h => by_way (.lt (.c 2) (.a 13)) (.ge (.a 13) 3) (.le (.a 13) 2) rfl rfl h (fun h => by_way (.eq (.c 3) (.a 502)) (tI 502 3) (tN 502 3) rfl rfl h (fun h => lcG s_slot3 h [(.c 2)] (by kernel_rfl) (fun _ _ _ => by kernel_rfl))
 (fun h => by_way (.lt (.c 3) (.a 13)) (.ge (.a 13) 4) (.le (.a 13) 3) rfl rfl h (fun h => by_way (.eq (.c 3) (.a 503)) (tI 503 3) (tN 503 3) rfl rfl h (fun h => lcG s_slot3 h [(.c 3)] (by kernel_rfl) (fun _ _ _ => by kernel_rfl))
 (fun h => lcG s_slot3 h [(.c (-1))] (by kernel_rfl) (fun _ _ _ => by kernel_rfl)))
 (fun h => lcG s_slot3 h [(.c (-1))] (by kernel_rfl) (fun _ _ _ => by kernel_rfl))))
 (fun h => lcG s_slot3 h [(.c (-1))] (by kernel_rfl) (fun _ _ _ => by kernel_rfl))))
 (fun h => lcG s_slot3 h [(.c (-1))] (by kernel_rfl) (fun _ _ _ => by kernel_rfl)))

theorem slot3_1 (val : Nat → Int) (h : Holds val [.le (.a 13) 0, .ge (.a 11) 0, .ge (.a 13) 0, .at (.le (.a 11) (.a 12)) true, .at (.le (.a 13) (.a 14)) true, .le (.a 13) 4]) : Slot3 val := lcG s_slot3 h [(.c (-1))] (by kernel_rfl) (fun _ _ _ => by kernel_rfl)

theorem slot3 (val : Nat → Int) (h : Holds val [.ge (.a 11) 0, .ge (.a 13) 0, .at (.le (.a 11) (.a 12)) true, .at (.le (.a 13) (.a 14)) true, .le (.a 13) 4]) : Slot3 val := by_way (.lt (.c 0) (.a 13)) (.ge (.a 13) 1) (.le (.a 13) 0) rfl rfl h (fun h => slot3_0 val h)
 (fun h => slot3_1 val h)

theorem taken_0 (val : Nat → Int) (h : Holds val [.ge (.a 0) 64]) : Taken val := by_way (.le (.a 0) (.c 79)) (.le (.a 0) 79) (.ge (.a 0) 80) rfl rfl h (fun h => lcG s_taken h [(.c 1)] (by kernel_rfl) (fun _ _ _ => by kernel_rfl))
 (fun h => by_eq 0 102 h (fun h => lcG s_taken h [(.c 1)] (by kernel_rfl) (fun _ _ _ => by kernel_rfl))
 (fun h => by_eq 0 196 h (fun h => lcG s_taken h [(.c 1)] (by kernel_rfl) (fun _ _ _ => by kernel_rfl))
 (fun h => by_eq 0 197 h (fun h => lcG s_taken h [(.c 1)] (by kernel_rfl) (fun _ _ _ => by kernel_rfl))
 (fun h => by_eq 0 242 h (fun h => lcG s_taken h [(.c 1)] (by kernel_rfl) (fun _ _ _ => by kernel_rfl))
 (fun h => by_eq 0 243 h (fun h => lcG s_taken h [(.c 1)] (by kernel_rfl) (fun _ _ _ => by kernel_rfl))
 (fun h => lcG s_taken h [(.c 0)] (by kernel_rfl) (fun _ _ _ => by kernel_rfl)))))))

theorem taken_1 (val : Nat → Int) (h : Holds val [.le (.a 0) 63]) : Taken val := by_eq 0 15 h (fun h => lcG s_taken h [(.c 1)] (by kernel_rfl) (fun _ _ _ => by kernel_rfl))
 (fun h => lcG s_taken h [(.c 0)] (by kernel_rfl) (fun _ _ _ => by kernel_rfl))

theorem taken (val : Nat → Int) : Taken val :=
  have h : Holds val [] := holds_nil
  by_way (.le (.c 64) (.a 0)) (.ge (.a 0) 64) (.le (.a 0) 63) rfl rfl h (fun h => taken_0 val h)
 (fun h => taken_1 val h)


theorem fit10 (val : Nat → Int) : FitC 10 val :=
  have h : Holds val [] := holds_nil
  by_eq 0 1 h (fun h => by_eq 1 5 h (fun h => lcG sf10 h [(.c 1)] (by kernel_rfl) (fun _ _ _ => by kernel_rfl))
 (fun h => lcG sf10 h [(.c 0)] (by kernel_rfl) (fun _ _ _ => by kernel_rfl)))
 (fun h => by_eq 0 2 h (fun h => by_eq 9 8 h (fun h => lcG sf10 h [(.c 1)] (by kernel_rfl) (fun _ _ _ => by kernel_rfl))
 (fun h => lcG sf10 h [(.c 0)] (by kernel_rfl) (fun _ _ _ => by kernel_rfl)))
 (fun h => lcG sf10 h [(.c 0)] (by kernel_rfl) (fun _ _ _ => by kernel_rfl)))


theorem fit13 (val : Nat → Int) : FitC 13 val :=
  have h : Holds val [] := holds_nil
  by_eq 0 1 h (fun h => by_eq 1 6 h (fun h => lcG sf13 h [(.c 1)] (by kernel_rfl) (fun _ _ _ => by kernel_rfl))
 (fun h => lcG sf13 h [(.c 0)] (by kernel_rfl) (fun _ _ _ => by kernel_rfl)))
 (fun h => by_eq 0 2 h (fun h => by_eq 9 16 h (fun h => lcG sf13 h [(.c 1)] (by kernel_rfl) (fun _ _ _ => by kernel_rfl))
 (fun h => lcG sf13 h [(.c 0)] (by kernel_rfl) (fun _ _ _ => by kernel_rfl)))
 (fun h => lcG sf13 h [(.c 0)] (by kernel_rfl) (fun _ _ _ => by kernel_rfl)))


theorem fit21 (val : Nat → Int) : FitC 21 val :=
  have h : Holds val [] := holds_nil
  by_way (.lt (.c 8) (.a 11)) (.ge (.a 11) 9) (.le (.a 11) 8) rfl rfl h (fun h => by_way (.le (.c (-128)) (.a 12)) (.ge (.a 12) (-128)) (.le (.a 12) (-129)) rfl rfl h (fun h => by_way (.le (.a 12) (.c 127)) (.le (.a 12) 127) (.ge (.a 12) 128) rfl rfl h (fun h => lcG sf21 h [(.c 1)] (by kernel_rfl) (fun _ _ _ => by kernel_rfl))
 (fun h => lcG sf21 h [(.c 0)] (by kernel_rfl) (fun _ _ _ => by kernel_rfl)))
 (fun h => lcG sf21 h [(.c 0)] (by kernel_rfl) (fun _ _ _ => by kernel_rfl)))
 (fun h => lcG sf21 h [(.c 0)] (by kernel_rfl) (fun _ _ _ => by kernel_rfl))


theorem fit28 (val : Nat → Int) : FitC 28 val :=
  have h : Holds val [] := holds_nil
  by_eq 0 1 h (fun h => by_eq 1 1 h (fun h => by_eq 2 0 h (fun h => lcG sf28 h [(.c 1)] (by kernel_rfl) (fun _ _ _ => by kernel_rfl))
 (fun h => lcG sf28 h [(.c 0)] (by kernel_rfl) (fun _ _ _ => by kernel_rfl)))
 (fun h => lcG sf28 h [(.c 0)] (by kernel_rfl) (fun _ _ _ => by kernel_rfl)))
 (fun h => lcG sf28 h [(.c 0)] (by kernel_rfl) (fun _ _ _ => by kernel_rfl))


theorem fit31 (val : Nat → Int) : FitC 31 val :=
  have h : Holds val [] := holds_nil
  by_eq 0 1 h (fun h => by_eq 1 5 h (fun h => by_eq 2 0 h (fun h => lcG sf31 h [(.c 1)] (by kernel_rfl) (fun _ _ _ => by kernel_rfl))
 (fun h => lcG sf31 h [(.c 0)] (by kernel_rfl) (fun _ _ _ => by kernel_rfl)))
 (fun h => lcG sf31 h [(.c 0)] (by kernel_rfl) (fun _ _ _ => by kernel_rfl)))
 (fun h => lcG sf31 h [(.c 0)] (by kernel_rfl) (fun _ _ _ => by kernel_rfl))


theorem fit3 (val : Nat → Int) : FitC 3 val :=
  have h : Holds val [] := holds_nil
  by_eq 0 1 h (fun h => by_eq 1 4 h (fun h => lcG sf3 h [(.c 1)] (by kernel_rfl) (fun _ _ _ => by kernel_rfl))
 (fun h => lcG sf3 h [(.c 0)] (by kernel_rfl) (fun _ _ _ => by kernel_rfl)))
 (fun h => lcG sf3 h [(.c 0)] (by kernel_rfl) (fun _ _ _ => by kernel_rfl))


theorem fit6 (val : Nat → Int) : FitC 6 val :=
  have h : Holds val [] := holds_nil
  by_eq 0 1 h (fun h => by_eq 1 7 h (fun h => lcG sf6 h [(.c 1)] (by kernel_rfl) (fun _ _ _ => by kernel_rfl))
 (fun h => lcG sf6 h [(.c 0)] (by kernel_rfl) (fun _ _ _ => by kernel_rfl)))
 (fun h => lcG sf6 h [(.c 0)] (by kernel_rfl) (fun _ _ _ => by kernel_rfl))


theorem fit17 (val : Nat → Int) : FitC 17 val :=
  have h : Holds val [] := holds_nil
  by_eq 0 2 h (fun h => by_eq 9 8 h (fun h => lcG sf17 h [(.c 1)] (by kernel_rfl) (fun _ _ _ => by kernel_rfl))
 (fun h => lcG sf17 h [(.c 0)] (by kernel_rfl) (fun _ _ _ => by kernel_rfl)))
 (fun h => lcG sf17 h [(.c 0)] (by kernel_rfl) (fun _ _ _ => by kernel_rfl))


theorem fit33 (val : Nat → Int) : FitC 33 val :=
  have h : Holds val [] := holds_nil
  by_way (.lt (.c 0) (.a 11)) (.ge (.a 11) 1) (.le (.a 11) 0) rfl rfl h (fun h => by_eq 12 1 h (fun h => lcG sf33 h [(.c 1)] (by kernel_rfl) (fun _ _ _ => by kernel_rfl))
 (fun h => lcG sf33 h [(.c 0)] (by kernel_rfl) (fun _ _ _ => by kernel_rfl)))
 (fun h => lcG sf33 h [(.c 0)] (by kernel_rfl) (fun _ _ _ => by kernel_rfl))


theorem checkA (val : Nat → Int) (h : Holds val [.ge (.a 11) 5, .ge (.a 13) 0]) : CheckA val := by_eq 614 1 h (fun h => lcG s_checkA h [(.c 3)] (by kernel_rfl) (fun _ _ _ => by kernel_rfl))
 (fun h => lcG s_checkA h [(.c 6)] (by kernel_rfl) (fun _ _ _ => by kernel_rfl))


theorem fit22 (val : Nat → Int) : FitC 22 val :=
  have h : Holds val [] := holds_nil
  by_eq 11 16 h (fun h => lcG sf22 h [(.c 1)] (by kernel_rfl) (fun _ _ _ => by kernel_rfl))
 (fun h => lcG sf22 h [(.c 0)] (by kernel_rfl) (fun _ _ _ => by kernel_rfl))


theorem fit27 (val : Nat → Int) : FitC 27 val :=
  have h : Holds val [] := holds_nil
  by_eq 0 4 h (fun h => lcG sf27 h [(.c 1)] (by kernel_rfl) (fun _ _ _ => by kernel_rfl))
 (fun h => lcG sf27 h [(.c 0)] (by kernel_rfl) (fun _ _ _ => by kernel_rfl))

end Go.Proofs.Ytlggmhchgicjkaa.Tab
