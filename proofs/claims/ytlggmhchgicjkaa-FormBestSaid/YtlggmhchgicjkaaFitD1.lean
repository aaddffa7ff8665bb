/-
  Ways through the code, part 1.
-/
import Derived.Test.YtlggmhchgicjkaaFitH
namespace Go.Proofs.Ytlggmhchgicjkaa.Tab
open Go.Sim
set_option maxRecDepth 100000
set_option linter.unusedSimpArgs false
set_option maxHeartbeats 4000000

theorem fits3b_0 (val : Nat → Int) (h : Holds val [tI 120 3, tI 114 1, tI 111 0, tI 80 3, tI 74 1, tI 71 0, tI 40 3, tI 7 0, tE 20 0, tI 11 3, tI 28 0, .ge (.a 400) 1, .le (.a 400) 34, .ge (.a 401) 1, .le (.a 401) 34, .ge (.a 402) 1, .le (.a 402) 34, .ge (.a 13) 0]) : Fits3 val := by_eq 151 0 h (fun h => by_eq 154 1 h (fun h => lcG s_fits3 h [(.c 1)] (by kernel_rfl) (fun _ _ _ => by kernel_rfl))
 (fun h => lcG s_fits3 h [(.c 0)] (by kernel_rfl) (fun _ _ _ => by kernel_rfl)))
 (fun h => lcG s_fits3 h [(.c 0)] (by kernel_rfl) (fun _ _ _ => by kernel_rfl))

theorem fits3b_1 (val : Nat → Int) (h : Holds val [tN 120 3, tI 114 1, tI 111 0, tI 80 3, tI 74 1, tI 71 0, tI 40 3, tI 7 0, tE 20 0, tI 11 3, tI 28 0, .ge (.a 400) 1, .le (.a 400) 34, .ge (.a 401) 1, .le (.a 401) 34, .ge (.a 402) 1, .le (.a 402) 34, .ge (.a 13) 0]) : Fits3 val := by_eq 153 1 h (fun h => lcG s_fits3 h [(.c 1)] (by kernel_rfl) (fun _ _ _ => by kernel_rfl))
 (fun h => lcG s_fits3 h [(.c 0)] (by kernel_rfl) (fun _ _ _ => by kernel_rfl))

theorem fits3b_2 (val : Nat → Int) (h : Holds val [tN 114 1, tI 111 0, tI 80 3, tI 74 1, tI 71 0, tI 40 3, tI 7 0, tE 20 0, tI 11 3, tI 28 0, .ge (.a 400) 1, .le (.a 400) 34, .ge (.a 401) 1, .le (.a 401) 34, .ge (.a 402) 1, .le (.a 402) 34, .ge (.a 13) 0]) : Fits3 val := lcG s_fits3 h [(.c 0)] (by kernel_rfl) (fun _ _ _ => by kernel_rfl)

theorem fits3b_3 (val : Nat → Int) (h : Holds val [tN 111 0, tI 80 3, tI 74 1, tI 71 0, tI 40 3, tI 7 0, tE 20 0, tI 11 3, tI 28 0, .ge (.a 400) 1, .le (.a 400) 34, .ge (.a 401) 1, .le (.a 401) 34, .ge (.a 402) 1, .le (.a 402) 34, .ge (.a 13) 0]) : Fits3 val := lcG s_fits3 h [(.c 0)] (by kernel_rfl) (fun _ _ _ => by kernel_rfl)

theorem fits3b_4 (val : Nat → Int) (h : Holds val [tI 120 3, tI 113 1, tN 80 3, tI 74 1, tI 71 0, tI 40 3, tI 7 0, tE 20 0, tI 11 3, tI 28 0, .ge (.a 400) 1, .le (.a 400) 34, .ge (.a 401) 1, .le (.a 401) 34, .ge (.a 402) 1, .le (.a 402) 34, .ge (.a 13) 0]) : Fits3 val := by_eq 151 0 h (fun h => by_eq 154 1 h (fun h => lcG s_fits3 h [(.c 1)] (by kernel_rfl) (fun _ _ _ => by kernel_rfl))
 (fun h => lcG s_fits3 h [(.c 0)] (by kernel_rfl) (fun _ _ _ => by kernel_rfl)))
 (fun h => lcG s_fits3 h [(.c 0)] (by kernel_rfl) (fun _ _ _ => by kernel_rfl))

theorem fits3b_5 (val : Nat → Int) (h : Holds val [tN 120 3, tI 113 1, tN 80 3, tI 74 1, tI 71 0, tI 40 3, tI 7 0, tE 20 0, tI 11 3, tI 28 0, .ge (.a 400) 1, .le (.a 400) 34, .ge (.a 401) 1, .le (.a 401) 34, .ge (.a 402) 1, .le (.a 402) 34, .ge (.a 13) 0]) : Fits3 val := by_eq 153 1 h (fun h => lcG s_fits3 h [(.c 1)] (by kernel_rfl) (fun _ _ _ => by kernel_rfl))
 (fun h => lcG s_fits3 h [(.c 0)] (by kernel_rfl) (fun _ _ _ => by kernel_rfl))

theorem fits3b_6 (val : Nat → Int) (h : Holds val [tN 113 1, tN 80 3, tI 74 1, tI 71 0, tI 40 3, tI 7 0, tE 20 0, tI 11 3, tI 28 0, .ge (.a 400) 1, .le (.a 400) 34, .ge (.a 401) 1, .le (.a 401) 34, .ge (.a 402) 1, .le (.a 402) 34, .ge (.a 13) 0]) : Fits3 val := lcG s_fits3 h [(.c 0)] (by kernel_rfl) (fun _ _ _ => by kernel_rfl)

theorem fits3b_7 (val : Nat → Int) (h : Holds val [tN 74 1, tI 71 0, tI 40 3, tI 7 0, tE 20 0, tI 11 3, tI 28 0, .ge (.a 400) 1, .le (.a 400) 34, .ge (.a 401) 1, .le (.a 401) 34, .ge (.a 402) 1, .le (.a 402) 34, .ge (.a 13) 0]) : Fits3 val := lcG s_fits3 h [(.c 0)] (by kernel_rfl) (fun _ _ _ => by kernel_rfl)

theorem fits3b_8 (val : Nat → Int) (h : Holds val [tN 71 0, tI 40 3, tI 7 0, tE 20 0, tI 11 3, tI 28 0, .ge (.a 400) 1, .le (.a 400) 34, .ge (.a 401) 1, .le (.a 401) 34, .ge (.a 402) 1, .le (.a 402) 34, .ge (.a 13) 0]) : Fits3 val := lcG s_fits3 h [(.c 0)] (by kernel_rfl) (fun _ _ _ => by kernel_rfl)

theorem fits3b_9 (val : Nat → Int) (h : Holds val [tI 120 3, tI 114 1, tI 111 0, tI 80 3, tI 73 1, tN 40 3, tI 7 0, tE 20 0, tI 11 3, tI 28 0, .ge (.a 400) 1, .le (.a 400) 34, .ge (.a 401) 1, .le (.a 401) 34, .ge (.a 402) 1, .le (.a 402) 34, .ge (.a 13) 0]) : Fits3 val := by_eq 151 0 h (fun h => by_eq 154 1 h (fun h => lcG s_fits3 h [(.c 1)] (by kernel_rfl) (fun _ _ _ => by kernel_rfl))
 (fun h => lcG s_fits3 h [(.c 0)] (by kernel_rfl) (fun _ _ _ => by kernel_rfl)))
 (fun h => lcG s_fits3 h [(.c 0)] (by kernel_rfl) (fun _ _ _ => by kernel_rfl))

theorem fits3b_10 (val : Nat → Int) (h : Holds val [tN 120 3, tI 114 1, tI 111 0, tI 80 3, tI 73 1, tN 40 3, tI 7 0, tE 20 0, tI 11 3, tI 28 0, .ge (.a 400) 1, .le (.a 400) 34, .ge (.a 401) 1, .le (.a 401) 34, .ge (.a 402) 1, .le (.a 402) 34, .ge (.a 13) 0]) : Fits3 val := by_eq 153 1 h (fun h => lcG s_fits3 h [(.c 1)] (by kernel_rfl) (fun _ _ _ => by kernel_rfl))
 (fun h => lcG s_fits3 h [(.c 0)] (by kernel_rfl) (fun _ _ _ => by kernel_rfl))

theorem fits3b_11 (val : Nat → Int) (h : Holds val [tN 114 1, tI 111 0, tI 80 3, tI 73 1, tN 40 3, tI 7 0, tE 20 0, tI 11 3, tI 28 0, .ge (.a 400) 1, .le (.a 400) 34, .ge (.a 401) 1, .le (.a 401) 34, .ge (.a 402) 1, .le (.a 402) 34, .ge (.a 13) 0]) : Fits3 val := lcG s_fits3 h [(.c 0)] (by kernel_rfl) (fun _ _ _ => by kernel_rfl)

theorem fits3b_12 (val : Nat → Int) (h : Holds val [tN 111 0, tI 80 3, tI 73 1, tN 40 3, tI 7 0, tE 20 0, tI 11 3, tI 28 0, .ge (.a 400) 1, .le (.a 400) 34, .ge (.a 401) 1, .le (.a 401) 34, .ge (.a 402) 1, .le (.a 402) 34, .ge (.a 13) 0]) : Fits3 val := lcG s_fits3 h [(.c 0)] (by kernel_rfl) (fun _ _ _ => by kernel_rfl)

theorem fits3b_13 (val : Nat → Int) (h : Holds val [tI 120 3, tI 113 1, tN 80 3, tI 73 1, tN 40 3, tI 7 0, tE 20 0, tI 11 3, tI 28 0, .ge (.a 400) 1, .le (.a 400) 34, .ge (.a 401) 1, .le (.a 401) 34, .ge (.a 402) 1, .le (.a 402) 34, .ge (.a 13) 0]) : Fits3 val := by_eq 151 0 h (fun h => by_eq 154 1 h (fun h => lcG s_fits3 h [(.c 1)] (by kernel_rfl) (fun _ _ _ => by kernel_rfl))
 (fun h => lcG s_fits3 h [(.c 0)] (by kernel_rfl) (fun _ _ _ => by kernel_rfl)))
 (fun h => lcG s_fits3 h [(.c 0)] (by kernel_rfl) (fun _ _ _ => by kernel_rfl))

theorem fits3b_14 (val : Nat → Int) (h : Holds val [tN 120 3, tI 113 1, tN 80 3, tI 73 1, tN 40 3, tI 7 0, tE 20 0, tI 11 3, tI 28 0, .ge (.a 400) 1, .le (.a 400) 34, .ge (.a 401) 1, .le (.a 401) 34, .ge (.a 402) 1, .le (.a 402) 34, .ge (.a 13) 0]) : Fits3 val := by_eq 153 1 h (fun h => lcG s_fits3 h [(.c 1)] (by kernel_rfl) (fun _ _ _ => by kernel_rfl))
 (fun h => lcG s_fits3 h [(.c 0)] (by kernel_rfl) (fun _ _ _ => by kernel_rfl))

theorem fits3b_15 (val : Nat → Int) (h : Holds val [tN 113 1, tN 80 3, tI 73 1, tN 40 3, tI 7 0, tE 20 0, tI 11 3, tI 28 0, .ge (.a 400) 1, .le (.a 400) 34, .ge (.a 401) 1, .le (.a 401) 34, .ge (.a 402) 1, .le (.a 402) 34, .ge (.a 13) 0]) : Fits3 val := lcG s_fits3 h [(.c 0)] (by kernel_rfl) (fun _ _ _ => by kernel_rfl)

theorem fits3b_16 (val : Nat → Int) (h : Holds val [tN 73 1, tN 40 3, tI 7 0, tE 20 0, tI 11 3, tI 28 0, .ge (.a 400) 1, .le (.a 400) 34, .ge (.a 401) 1, .le (.a 401) 34, .ge (.a 402) 1, .le (.a 402) 34, .ge (.a 13) 0]) : Fits3 val := lcG s_fits3 h [(.c 0)] (by kernel_rfl) (fun _ _ _ => by kernel_rfl)

theorem fits3b_17 (val : Nat → Int) (h : Holds val [tN 7 0, tE 20 0, tI 11 3, tI 28 0, .ge (.a 400) 1, .le (.a 400) 34, .ge (.a 401) 1, .le (.a 401) 34, .ge (.a 402) 1, .le (.a 402) 34, .ge (.a 13) 0]) : Fits3 val := lcG s_fits3 h [(.c 0)] (by kernel_rfl) (fun _ _ _ => by kernel_rfl)

theorem fits3b_18 (val : Nat → Int) (h : Holds val [tD 20 0, tI 11 3, tI 28 0, .ge (.a 400) 1, .le (.a 400) 34, .ge (.a 401) 1, .le (.a 401) 34, .ge (.a 402) 1, .le (.a 402) 34, .ge (.a 13) 0]) : Fits3 val := lcG s_fits3 h [(.c 0)] (by kernel_rfl) (fun _ _ _ => by kernel_rfl)

theorem fits3b (val : Nat → Int) (h : Holds val [.is (.a 11) 3, .is (.a 28) 0, .ge (.a 400) 1, .le (.a 400) 34, .ge (.a 401) 1, .le (.a 401) 34, .ge (.a 402) 1, .le (.a 402) 34, .ge (.a 13) 0]) : Fits3 val := by_e2 20 0 h (fun h => by_eq 7 0 h (fun h => by_eq 40 3 h (fun h => by_eq 71 0 h (fun h => by_eq 74 1 h (fun h => by_eq 80 3 h (fun h => by_eq 111 0 h (fun h => by_eq 114 1 h (fun h => by_eq 120 3 h (fun h => fits3b_0 val h)
 (fun h => fits3b_1 val h))
 (fun h => fits3b_2 val h))
 (fun h => fits3b_3 val h))
 (fun h => by_eq 113 1 h (fun h => by_eq 120 3 h (fun h => fits3b_4 val h)
 (fun h => fits3b_5 val h))
 (fun h => fits3b_6 val h)))
 (fun h => fits3b_7 val h))
 (fun h => fits3b_8 val h))
 (fun h => by_eq 73 1 h (fun h => by_eq 80 3 h (fun h => by_eq 111 0 h (fun h => by_eq 114 1 h (fun h => by_eq 120 3 h (fun h => fits3b_9 val h)
 (fun h => fits3b_10 val h))
 (fun h => fits3b_11 val h))
 (fun h => fits3b_12 val h))
 (fun h => by_eq 113 1 h (fun h => by_eq 120 3 h (fun h => fits3b_13 val h)
 (fun h => fits3b_14 val h))
 (fun h => fits3b_15 val h)))
 (fun h => fits3b_16 val h)))
 (fun h => fits3b_17 val h))
 (fun h => fits3b_18 val h)


theorem fits2c (val : Nat → Int) (h : Holds val [.ne (.a 11) 2, .ge (.a 11) 0, .ge (.a 13) 0]) : Fits2 val := by_e2 20 0 h (fun h => lcG s_fits2 h [(.c 0)] (by kernel_rfl) (fun _ _ _ => by kernel_rfl))
 (fun h => lcG s_fits2 h [(.c 0)] (by kernel_rfl) (fun _ _ _ => by kernel_rfl))


theorem fits1c (val : Nat → Int) (h : Holds val [.ne (.a 11) 1, .ge (.a 11) 0, .ge (.a 13) 0]) : Fits1 val := by_e2 20 0 h (fun h => lcG s_fits1 h [(.c 0)] (by kernel_rfl) (fun _ _ _ => by kernel_rfl))
 (fun h => lcG s_fits1 h [(.c 0)] (by kernel_rfl) (fun _ _ _ => by kernel_rfl))


theorem fits0zb (val : Nat → Int) (h : Holds val [.is (.a 11) 0, .is (.a 28) 0, .is (.a 13) 0, .is (.a 38) 0]) : Fits0z val := by_e2 20 0 h (fun h => by_eq 7 0 h (fun h => lcG s_fits0z h [(.c 1)] (by kernel_rfl) (fun _ _ _ => by kernel_rfl))
 (fun h => lcG s_fits0z h [(.c 0)] (by kernel_rfl) (fun _ _ _ => by kernel_rfl)))
 (fun h => lcG s_fits0z h [(.c 0)] (by kernel_rfl) (fun _ _ _ => by kernel_rfl))

end Go.Proofs.Ytlggmhchgicjkaa.Tab
