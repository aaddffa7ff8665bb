/-
  Ways through the code, part 3.
-/
import Derived.Test.YtlggmhchgicjkaaShpH
namespace Go.Proofs.Ytlggmhchgicjkaa.Tab
open Go.Sim
set_option maxRecDepth 100000
set_option linter.unusedSimpArgs false
set_option maxHeartbeats 4000000

theorem once4_0 (val : Nat → Int) (h : Holds val [tI 501 6, tI 500 6, tI 13 4, .ge (.a 14) 4]) : Once4 val := by_eq 502 6 h (fun h => by_eq 503 6 h (fun h => lcG s_once4 h [(.c 1)] (by kernel_rfl) (fun _ _ _ => by kernel_rfl))
 (fun h => lcG s_once4 h [(.c 1)] (by kernel_rfl) (fun _ _ _ => by kernel_rfl)))
 (fun h => by_eq 503 6 h (fun h => lcG s_once4 h [(.c 1)] (by kernel_rfl) (fun _ _ _ => by kernel_rfl))
 (fun h => by_e2 503 502 h (fun h => lcG s_once4 h [(.c 0)] (by kernel_rfl) (fun _ _ _ => by kernel_rfl))
 (fun h => lcG s_once4 h [(.c 1)] (by kernel_rfl) (fun _ _ _ => by kernel_rfl))))

theorem once4_1 (val : Nat → Int) (h : Holds val [tN 501 6, tI 500 6, tI 13 4, .ge (.a 14) 4]) : Once4 val := by_eq 502 6 h (fun h => by_eq 503 6 h (fun h => lcG s_once4 h [(.c 1)] (by kernel_rfl) (fun _ _ _ => by kernel_rfl))
 (fun h => by_e2 503 501 h (fun h => lcG s_once4 h [(.c 0)] (by kernel_rfl) (fun _ _ _ => by kernel_rfl))
 (fun h => lcG s_once4 h [(.c 1)] (by kernel_rfl) (fun _ _ _ => by kernel_rfl))))
 (fun h => by_e2 502 501 h (fun h => lcG s_once4 h [(.c 0)] (by kernel_rfl) (fun _ _ _ => by kernel_rfl))
 (fun h => by_eq 503 6 h (fun h => lcG s_once4 h [(.c 1)] (by kernel_rfl) (fun _ _ _ => by kernel_rfl))
 (fun h => by_e2 503 501 h (fun h => lcG s_once4 h [(.c 0)] (by kernel_rfl) (fun _ _ _ => by kernel_rfl))
 (fun h => by_e2 503 502 h (fun h => lcG s_once4 h [(.c 0)] (by kernel_rfl) (fun _ _ _ => by kernel_rfl))
 (fun h => lcG s_once4 h [(.c 1)] (by kernel_rfl) (fun _ _ _ => by kernel_rfl))))))

theorem once4_2 (val : Nat → Int) (h : Holds val [tI 501 6, tN 500 6, tI 13 4, .ge (.a 14) 4]) : Once4 val := by_eq 502 6 h (fun h => by_eq 503 6 h (fun h => lcG s_once4 h [(.c 1)] (by kernel_rfl) (fun _ _ _ => by kernel_rfl))
 (fun h => by_e2 503 500 h (fun h => lcG s_once4 h [(.c 0)] (by kernel_rfl) (fun _ _ _ => by kernel_rfl))
 (fun h => lcG s_once4 h [(.c 1)] (by kernel_rfl) (fun _ _ _ => by kernel_rfl))))
 (fun h => by_e2 502 500 h (fun h => lcG s_once4 h [(.c 0)] (by kernel_rfl) (fun _ _ _ => by kernel_rfl))
 (fun h => by_eq 503 6 h (fun h => lcG s_once4 h [(.c 1)] (by kernel_rfl) (fun _ _ _ => by kernel_rfl))
 (fun h => by_e2 503 500 h (fun h => lcG s_once4 h [(.c 0)] (by kernel_rfl) (fun _ _ _ => by kernel_rfl))
 (fun h => by_e2 503 502 h (fun h => lcG s_once4 h [(.c 0)] (by kernel_rfl) (fun _ _ _ => by kernel_rfl))
 (fun h => lcG s_once4 h [(.c 1)] (by kernel_rfl) (fun _ _ _ => by kernel_rfl))))))

theorem once4_3 (val : Nat → Int) (h : Holds val [tE 501 500, tN 501 6, tN 500 6, tI 13 4, .ge (.a 14) 4]) : Once4 val := lcG s_once4 h [(.c 0)] (by kernel_rfl) (fun _ _ _ => by kernel_rfl)

theorem once4_4 (val : Nat → Int) (h : Holds val [tI 502 6, tD 501 500, tN 501 6, tN 500 6, tI 13 4, .ge (.a 14) 4]) : Once4 val := by_eq 503 6 h (fun h => lcG s_once4 h [(.c 1)] (by kernel_rfl) (fun _ _ _ => by kernel_rfl))
 (fun h => by_e2 503 500 h (fun h => lcG s_once4 h [(.c 0)] (by kernel_rfl) (fun _ _ _ => by kernel_rfl))
 (fun h => by_e2 503 501 h (fun h => lcG s_once4 h [(.c 0)] (by kernel_rfl) (fun _ _ _ => by kernel_rfl))
 (fun h => lcG s_once4 h [(.c 1)] (by kernel_rfl) (fun _ _ _ => by kernel_rfl))))

theorem once4_5 (val : Nat → Int) (h : Holds val [tN 502 6, tD 501 500, tN 501 6, tN 500 6, tI 13 4, .ge (.a 14) 4]) : Once4 val := by_e2 502 500 h (fun h => lcG s_once4 h [(.c 0)] (by kernel_rfl) (fun _ _ _ => by kernel_rfl))
 (fun h => by_e2 502 501 h (fun h => lcG s_once4 h [(.c 0)] (by kernel_rfl) (fun _ _ _ => by kernel_rfl))
 (fun h => by_eq 503 6 h (fun h => lcG s_once4 h [(.c 1)] (by kernel_rfl) (fun _ _ _ => by kernel_rfl))
 (fun h => by_e2 503 500 h (fun h => lcG s_once4 h [(.c 0)] (by kernel_rfl) (fun _ _ _ => by kernel_rfl))
 (fun h => by_e2 503 501 h (fun h => lcG s_once4 h [(.c 0)] (by kernel_rfl) (fun _ _ _ => by kernel_rfl))
 (fun h => by_e2 503 502 h (fun h => lcG s_once4 h [(.c 0)] (by kernel_rfl) (fun _ _ _ => by kernel_rfl))
 (fun h => lcG s_once4 h [(.c 1)] (by kernel_rfl) (fun _ _ _ => by kernel_rfl)))))))

theorem once4 (val : Nat → Int) (h : Holds val [.is (.a 13) 4, .ge (.a 14) 4]) : Once4 val := by_eq 500 6 h (fun h => by_eq 501 6 h (fun h => once4_0 val h)
 (fun h => once4_1 val h))
 (fun h => by_eq 501 6 h (fun h => once4_2 val h)
 (fun h => by_e2 501 500 h (fun h => once4_3 val h)
 (fun h => by_eq 502 6 h (fun h => once4_4 val h)
 (fun h => once4_5 val h))))

theorem goes_0 (val : Nat → Int) (h : Holds val [tI 1 6]) : Goes val := by_way (.le (.c 28) (.a 0)) (.ge (.a 0) 28) (.le (.a 0) 27) rfl rfl h (fun h => by_way (.le (.a 0) (.c 33)) (.le (.a 0) 33) (.ge (.a 0) 34) rfl rfl h (fun h => lcG s_goes h [(.c 1)] (by kernel_rfl) (fun _ _ _ => by kernel_rfl))
 (fun h => lcG s_goes h [(.c 0)] (by kernel_rfl) (fun _ _ _ => by kernel_rfl)))
 (fun h => lcG s_goes h [(.c 0)] (by kernel_rfl) (fun _ _ _ => by kernel_rfl))

theorem goes_1 (val : Nat → Int) (h : Holds val [tI 1 5, tN 1 6]) : Goes val := by_way (.le (.c 20) (.a 0)) (.ge (.a 0) 20) (.le (.a 0) 19) rfl rfl h (fun h => by_way (.le (.a 0) (.c 27)) (.le (.a 0) 27) (.ge (.a 0) 28) rfl rfl h (fun h => lcG s_goes h [(.c 1)] (by kernel_rfl) (fun _ _ _ => by kernel_rfl))
 (fun h => lcG s_goes h [(.c 0)] (by kernel_rfl) (fun _ _ _ => by kernel_rfl)))
 (fun h => lcG s_goes h [(.c 0)] (by kernel_rfl) (fun _ _ _ => by kernel_rfl))

theorem goes_2 (val : Nat → Int) (h : Holds val [tI 1 1, tN 1 5, tN 1 6]) : Goes val := by_way (.le (.c 1) (.a 0)) (.ge (.a 0) 1) (.le (.a 0) 0) rfl rfl h (fun h => by_way (.le (.a 0) (.c 6)) (.le (.a 0) 6) (.ge (.a 0) 7) rfl rfl h (fun h => lcG s_goes h [(.c 1)] (by kernel_rfl) (fun _ _ _ => by kernel_rfl))
 (fun h => lcG s_goes h [(.c 0)] (by kernel_rfl) (fun _ _ _ => by kernel_rfl)))
 (fun h => lcG s_goes h [(.c 0)] (by kernel_rfl) (fun _ _ _ => by kernel_rfl))

theorem goes_3 (val : Nat → Int) (h : Holds val [tI 1 3, tN 1 1, tN 1 5, tN 1 6]) : Goes val := by_way (.le (.c 1) (.a 0)) (.ge (.a 0) 1) (.le (.a 0) 0) rfl rfl h (fun h => by_way (.le (.a 0) (.c 6)) (.le (.a 0) 6) (.ge (.a 0) 7) rfl rfl h (fun h => lcG s_goes h [(.c 1)] (by kernel_rfl) (fun _ _ _ => by kernel_rfl))
 (fun h => lcG s_goes h [(.c 0)] (by kernel_rfl) (fun _ _ _ => by kernel_rfl)))
 (fun h => lcG s_goes h [(.c 0)] (by kernel_rfl) (fun _ _ _ => by kernel_rfl))

theorem goes_4 (val : Nat → Int) (h : Holds val [tI 1 4, tN 1 3, tN 1 1, tN 1 5, tN 1 6]) : Goes val := by_way (.le (.c 1) (.a 0)) (.ge (.a 0) 1) (.le (.a 0) 0) rfl rfl h (fun h => by_way (.le (.a 0) (.c 6)) (.le (.a 0) 6) (.ge (.a 0) 7) rfl rfl h (fun h => lcG s_goes h [(.c 1)] (by kernel_rfl) (fun _ _ _ => by kernel_rfl))
 (fun h => lcG s_goes h [(.c 0)] (by kernel_rfl) (fun _ _ _ => by kernel_rfl)))
 (fun h => lcG s_goes h [(.c 0)] (by kernel_rfl) (fun _ _ _ => by kernel_rfl))

theorem goes_5 (val : Nat → Int) (h : Holds val [tN 1 4, tN 1 3, tN 1 1, tN 1 5, tN 1 6]) : Goes val := by_eq 1 7 h (fun h => by_way (.le (.c 1) (.a 0)) (.ge (.a 0) 1) (.le (.a 0) 0) rfl rfl h (fun h => by_way (.le (.a 0) (.c 6)) (.le (.a 0) 6) (.ge (.a 0) 7) rfl rfl h (fun h => lcG s_goes h [(.c 1)] (by kernel_rfl) (fun _ _ _ => by kernel_rfl))
 (fun h => lcG s_goes h [(.c 0)] (by kernel_rfl) (fun _ _ _ => by kernel_rfl)))
 (fun h => lcG s_goes h [(.c 0)] (by kernel_rfl) (fun _ _ _ => by kernel_rfl)))
 (fun h => by_eq 1 2 h (fun h => by_way (.le (.c 1) (.a 0)) (.ge (.a 0) 1) (.le (.a 0) 0) rfl rfl h (fun h => by_way (.le (.a 0) (.c 19)) (.le (.a 0) 19) (.ge (.a 0) 20) rfl rfl h (fun h => lcG s_goes h [(.c 1)] (by kernel_rfl) (fun _ _ _ => by kernel_rfl))
 (fun h => by_eq 0 34 h (fun h => lcG s_goes h [(.c 1)] (by kernel_rfl) (fun _ _ _ => by kernel_rfl))
 (fun h => lcG s_goes h [(.c 0)] (by kernel_rfl) (fun _ _ _ => by kernel_rfl))))
 (fun h => lcG s_goes h [(.c 0)] (by kernel_rfl) (fun _ _ _ => by kernel_rfl)))
 (fun h => lcG s_goes h [(.c 0)] (by kernel_rfl) (fun _ _ _ => by kernel_rfl)))

theorem goes (val : Nat → Int) : Goes val :=
  have h : Holds val [] := holds_nil
  by_eq 1 6 h (fun h => goes_0 val h)
 (fun h => by_eq 1 5 h (fun h => goes_1 val h)
 (fun h => by_eq 1 1 h (fun h => goes_2 val h)
 (fun h => by_eq 1 3 h (fun h => goes_3 val h)
 (fun h => by_eq 1 4 h (fun h => goes_4 val h)
 (fun h => goes_5 val h)))))

theorem slot1_0 (val : Nat → Int) (h : Holds val [.ge (.a 13) 1, .ge (.a 11) 0, .ge (.a 13) 0, .at (.le (.a 11) (.a 12)) true, .at (.le (.a 13) (.a 14)) true, .le (.a 13) 4]) : Slot1 val := by_way (.eq (.c 1) (.a 500)) (tI 500 1) (tN 500 1) rfl rfl h (fun h => lcG s_slot1 h [(.c 0)] (by kernel_rfl) (fun _ _ _ => by kernel_rfl))
 (fun h => by_way (.lt (.c 1) (.a 13)) (.ge (.a 13) 2) (.le (.a 13) 1) rfl rfl h (fun h => by_way (.eq (.c 1) (.a 501)) (tI 501 1) (tN 501 1) rfl rfl h (fun h => lcG s_slot1 h [(.c 1)] (by kernel_rfl) (fun _ _ _ => by kernel_rfl))
 (fun h => by_way (.lt (.c 2) (.a 13)) (.ge (.a 13) 3) (.le (.a 13) 2) rfl rfl h (fun h => by_way (.eq (.c 1) (.a 502)) (tI 502 1) (tN 502 1) rfl rfl h (fun h => lcG s_slot1 h [(.c 2)] (by kernel_rfl) (fun _ _ _ => by kernel_rfl))
 (fun h => by_way (.lt (.c 3) (.a 13)) (.ge (.a 13) 4) (.le (.a 13) 3) rfl rfl h (fun h => by_way (.eq (.c 1) (.a 503)) (tI 503 1) (tN 503 1) rfl rfl h (fun h => lcG s_slot1 h [(.c 3)] (by kernel_rfl) (fun _ _ _ => by kernel_rfl))
 (fun h => lcG s_slot1 h [(.c (-1))] (by kernel_rfl) (fun _ _ _ => by kernel_rfl)))
 (fun h => lcG s_slot1 h [(.c (-1))] (by kernel_rfl) (fun _ _ _ => by kernel_rfl))))
 (fun h => lcG s_slot1 h [(.c (-1))] (by kernel_rfl) (fun _ _ _ => by kernel_rfl))))
 (fun h => lcG s_slot1 h [(.c (-1))] (by kernel_rfl) (fun _ _ _ => by kernel_rfl)))

theorem slot1_1 (val : Nat → Int) (h : Holds val [.le (.a 13) 0, .ge (.a 11) 0, .ge (.a 13) 0, .at (.le (.a 11) (.a 12)) true, .at (.le (.a 13) (.a 14)) true, .le (.a 13) 4]) : Slot1 val := lcG s_slot1 h [(.c (-1))] (by kernel_rfl) (fun _ _ _ => by kernel_rfl)

theorem slot1 (val : Nat → Int) (h : Holds val [.ge (.a 11) 0, .ge (.a 13) 0, .at (.le (.a 11) (.a 12)) true, .at (.le (.a 13) (.a 14)) true, .le (.a 13) 4]) : Slot1 val := by_way (.lt (.c 0) (.a 13)) (.ge (.a 13) 1) (.le (.a 13) 0) rfl rfl h (fun h => slot1_0 val h)
 (fun h => slot1_1 val h)

theorem slot4_0 (val : Nat → Int) (h : Holds val [.ge (.a 13) 1, .ge (.a 11) 0, .ge (.a 13) 0, .at (.le (.a 11) (.a 12)) true, .at (.le (.a 13) (.a 14)) true, .le (.a 13) 4]) : Slot4 val := by_way (.eq (.c 4) (.a 500)) (tI 500 4) (tN 500 4) rfl rfl h (fun h => lcG s_slot4 h [(.c 0)] (by kernel_rfl) (fun _ _ _ => by kernel_rfl))
 (fun h => by_way (.lt (.c 1) (.a 13)) (.ge (.a 13) 2) (.le (.a 13) 1) rfl rfl h (fun h => by_way (.eq (.c 4) (.a 501)) (tI 501 4) (tN 501 4) rfl rfl h (fun h => lcG s_slot4 h [(.c 1)] (by kernel_rfl) (fun _ _ _ => by kernel_rfl))
 (fun h => by_way (.lt (.c 2) (.a 13)) (.ge (.a 13) 3) (.le (.a 13) 2) rfl rfl h (fun h => by_way (.eq (.c 4) (.a 502)) (tI 502 4) (tN 502 4) rfl rfl h (fun h => lcG s_slot4 h [(.c 2)] (by kernel_rfl) (fun _ _ _ => by kernel_rfl))
 (fun h => by_way (.lt (.c 3) (.a 13)) (.ge (.a 13) 4) (.le (.a 13) 3) rfl rfl h (fun h => by_way (.eq (.c 4) (.a 503)) (tI 503 4) (tN 503 4) rfl rfl h (fun h => lcG s_slot4 h [(.c 3)] (by kernel_rfl) (fun _ _ _ => by kernel_rfl))
 (fun h => lcG s_slot4 h [(.c (-1))] (by kernel_rfl) (fun _ _ _ => by kernel_rfl)))
 (fun h => lcG s_slot4 h [(.c (-1))] (by kernel_rfl) (fun _ _ _ => by kernel_rfl))))
 (fun h => lcG s_slot4 h [(.c (-1))] (by kernel_rfl) (fun _ _ _ => by kernel_rfl))))
 (fun h => lcG s_slot4 h [(.c (-1))] (by kernel_rfl) (fun _ _ _ => by kernel_rfl)))

theorem slot4_1 (val : Nat → Int) (h : Holds val [.le (.a 13) 0, .ge (.a 11) 0, .ge (.a 13) 0, .at (.le (.a 11) (.a 12)) true, .at (.le (.a 13) (.a 14)) true, .le (.a 13) 4]) : Slot4 val := lcG s_slot4 h [(.c (-1))] (by kernel_rfl) (fun _ _ _ => by kernel_rfl)

theorem slot4 (val : Nat → Int) (h : Holds val [.ge (.a 11) 0, .ge (.a 13) 0, .at (.le (.a 11) (.a 12)) true, .at (.le (.a 13) (.a 14)) true, .le (.a 13) 4]) : Slot4 val := by_way (.lt (.c 0) (.a 13)) (.ge (.a 13) 1) (.le (.a 13) 0) rfl rfl h (fun h => slot4_0 val h)
 (fun h => slot4_1 val h)


theorem fit7 (val : Nat → Int) : FitC 7 val :=
  have h : Holds val [] := holds_nil
  by_eq 0 1 h (fun h => by_eq 1 1 h (fun h => lcG sf7 h [(.c 1)] (by kernel_rfl) (fun _ _ _ => by kernel_rfl))
 (fun h => by_eq 1 2 h (fun h => lcG sf7 h [(.c 1)] (by kernel_rfl) (fun _ _ _ => by kernel_rfl))
 (fun h => lcG sf7 h [(.c 0)] (by kernel_rfl) (fun _ _ _ => by kernel_rfl))))
 (fun h => by_eq 0 2 h (fun h => by_eq 9 1 h (fun h => lcG sf7 h [(.c 1)] (by kernel_rfl) (fun _ _ _ => by kernel_rfl))
 (fun h => lcG sf7 h [(.c 0)] (by kernel_rfl) (fun _ _ _ => by kernel_rfl)))
 (fun h => lcG sf7 h [(.c 0)] (by kernel_rfl) (fun _ _ _ => by kernel_rfl)))


theorem fit8 (val : Nat → Int) : FitC 8 val :=
  have h : Holds val [] := holds_nil
  by_eq 0 1 h (fun h => by_eq 1 3 h (fun h => lcG sf8 h [(.c 1)] (by kernel_rfl) (fun _ _ _ => by kernel_rfl))
 (fun h => lcG sf8 h [(.c 0)] (by kernel_rfl) (fun _ _ _ => by kernel_rfl)))
 (fun h => by_eq 0 2 h (fun h => by_eq 9 2 h (fun h => lcG sf8 h [(.c 1)] (by kernel_rfl) (fun _ _ _ => by kernel_rfl))
 (fun h => lcG sf8 h [(.c 0)] (by kernel_rfl) (fun _ _ _ => by kernel_rfl)))
 (fun h => lcG sf8 h [(.c 0)] (by kernel_rfl) (fun _ _ _ => by kernel_rfl)))


theorem fit11 (val : Nat → Int) : FitC 11 val :=
  have h : Holds val [] := holds_nil
  by_eq 0 1 h (fun h => by_eq 1 6 h (fun h => lcG sf11 h [(.c 1)] (by kernel_rfl) (fun _ _ _ => by kernel_rfl))
 (fun h => lcG sf11 h [(.c 0)] (by kernel_rfl) (fun _ _ _ => by kernel_rfl)))
 (fun h => by_eq 0 2 h (fun h => by_eq 9 4 h (fun h => lcG sf11 h [(.c 1)] (by kernel_rfl) (fun _ _ _ => by kernel_rfl))
 (fun h => lcG sf11 h [(.c 0)] (by kernel_rfl) (fun _ _ _ => by kernel_rfl)))
 (fun h => lcG sf11 h [(.c 0)] (by kernel_rfl) (fun _ _ _ => by kernel_rfl)))


theorem fit14 (val : Nat → Int) : FitC 14 val :=
  have h : Holds val [] := holds_nil
  by_eq 0 1 h (fun h => by_eq 1 7 h (fun h => lcG sf14 h [(.c 1)] (by kernel_rfl) (fun _ _ _ => by kernel_rfl))
 (fun h => lcG sf14 h [(.c 0)] (by kernel_rfl) (fun _ _ _ => by kernel_rfl)))
 (fun h => by_eq 0 2 h (fun h => by_eq 9 32 h (fun h => lcG sf14 h [(.c 1)] (by kernel_rfl) (fun _ _ _ => by kernel_rfl))
 (fun h => lcG sf14 h [(.c 0)] (by kernel_rfl) (fun _ _ _ => by kernel_rfl)))
 (fun h => lcG sf14 h [(.c 0)] (by kernel_rfl) (fun _ _ _ => by kernel_rfl)))


theorem fit24 (val : Nat → Int) : FitC 24 val :=
  have h : Holds val [] := holds_nil
  by_eq 11 64 h (fun h => by_way (.le (.c (-2147483648)) (.a 12)) (.ge (.a 12) (-2147483648)) (.le (.a 12) (-2147483649)) rfl rfl h (fun h => by_way (.le (.a 12) (.c 2147483647)) (.le (.a 12) 2147483647) (.ge (.a 12) 2147483648) rfl rfl h (fun h => lcG sf24 h [(.c 1)] (by kernel_rfl) (fun _ _ _ => by kernel_rfl))
 (fun h => lcG sf24 h [(.c 0)] (by kernel_rfl) (fun _ _ _ => by kernel_rfl)))
 (fun h => lcG sf24 h [(.c 0)] (by kernel_rfl) (fun _ _ _ => by kernel_rfl)))
 (fun h => lcG sf24 h [(.c 0)] (by kernel_rfl) (fun _ _ _ => by kernel_rfl))


theorem fit29 (val : Nat → Int) : FitC 29 val :=
  have h : Holds val [] := holds_nil
  by_eq 0 1 h (fun h => by_eq 1 3 h (fun h => by_eq 2 0 h (fun h => lcG sf29 h [(.c 1)] (by kernel_rfl) (fun _ _ _ => by kernel_rfl))
 (fun h => lcG sf29 h [(.c 0)] (by kernel_rfl) (fun _ _ _ => by kernel_rfl)))
 (fun h => lcG sf29 h [(.c 0)] (by kernel_rfl) (fun _ _ _ => by kernel_rfl)))
 (fun h => lcG sf29 h [(.c 0)] (by kernel_rfl) (fun _ _ _ => by kernel_rfl))


theorem fit32 (val : Nat → Int) : FitC 32 val :=
  have h : Holds val [] := holds_nil
  by_eq 0 1 h (fun h => by_eq 1 1 h (fun h => by_eq 2 1 h (fun h => lcG sf32 h [(.c 1)] (by kernel_rfl) (fun _ _ _ => by kernel_rfl))
 (fun h => lcG sf32 h [(.c 0)] (by kernel_rfl) (fun _ _ _ => by kernel_rfl)))
 (fun h => lcG sf32 h [(.c 0)] (by kernel_rfl) (fun _ _ _ => by kernel_rfl)))
 (fun h => lcG sf32 h [(.c 0)] (by kernel_rfl) (fun _ _ _ => by kernel_rfl))


theorem fit5 (val : Nat → Int) : FitC 5 val :=
  have h : Holds val [] := holds_nil
  by_eq 0 1 h (fun h => by_eq 1 6 h (fun h => lcG sf5 h [(.c 1)] (by kernel_rfl) (fun _ _ _ => by kernel_rfl))
 (fun h => lcG sf5 h [(.c 0)] (by kernel_rfl) (fun _ _ _ => by kernel_rfl)))
 (fun h => lcG sf5 h [(.c 0)] (by kernel_rfl) (fun _ _ _ => by kernel_rfl))


theorem fit16 (val : Nat → Int) : FitC 16 val :=
  have h : Holds val [] := holds_nil
  by_eq 0 2 h (fun h => by_eq 9 4 h (fun h => lcG sf16 h [(.c 1)] (by kernel_rfl) (fun _ _ _ => by kernel_rfl))
 (fun h => lcG sf16 h [(.c 0)] (by kernel_rfl) (fun _ _ _ => by kernel_rfl)))
 (fun h => lcG sf16 h [(.c 0)] (by kernel_rfl) (fun _ _ _ => by kernel_rfl))


theorem fit19 (val : Nat → Int) : FitC 19 val :=
  have h : Holds val [] := holds_nil
  by_eq 0 2 h (fun h => by_eq 9 32 h (fun h => lcG sf19 h [(.c 1)] (by kernel_rfl) (fun _ _ _ => by kernel_rfl))
 (fun h => lcG sf19 h [(.c 0)] (by kernel_rfl) (fun _ _ _ => by kernel_rfl)))
 (fun h => lcG sf19 h [(.c 0)] (by kernel_rfl) (fun _ _ _ => by kernel_rfl))


theorem once1 (val : Nat → Int) (h : Holds val [.is (.a 13) 1, .ge (.a 14) 1]) : Once1 val := by_eq 500 6 h (fun h => lcG s_once1 h [(.c 1)] (by kernel_rfl) (fun _ _ _ => by kernel_rfl))
 (fun h => lcG s_once1 h [(.c 1)] (by kernel_rfl) (fun _ _ _ => by kernel_rfl))


theorem checkB (val : Nat → Int) (h : Holds val [.ge (.a 11) 0, .le (.a 11) 4, .ge (.a 13) 5]) : CheckB val := by_eq 614 1 h (fun h => lcG s_checkB h [(.c 3)] (by kernel_rfl) (fun _ _ _ => by kernel_rfl))
 (fun h => lcG s_checkB h [(.c 6)] (by kernel_rfl) (fun _ _ _ => by kernel_rfl))


theorem fit23 (val : Nat → Int) : FitC 23 val :=
  have h : Holds val [] := holds_nil
  by_eq 11 32 h (fun h => lcG sf23 h [(.c 1)] (by kernel_rfl) (fun _ _ _ => by kernel_rfl))
 (fun h => lcG sf23 h [(.c 0)] (by kernel_rfl) (fun _ _ _ => by kernel_rfl))


theorem once0 (val : Nat → Int) (h : Holds val [.is (.a 13) 0, .ge (.a 14) 0]) : Once0 val := lcG s_once0 h [(.c 1)] (by kernel_rfl) (fun _ _ _ => by kernel_rfl)

end Go.Proofs.Ytlggmhchgicjkaa.Tab
