/-
  Ways through the code, part 0.
-/
import Derived.Test.YtlggmhchgicjkaaFitH
namespace Go.Proofs.Ytlggmhchgicjkaa.Tab
open Go.Sim
set_option maxRecDepth 100000
set_option linter.unusedSimpArgs false
set_option maxHeartbeats 4000000

theorem fits4b_0 (val : Nat → Int) (h : Holds val [tI 160 3, tI 154 1, tI 151 0, tI 120 3, tI 114 1, tI 111 0, tI 80 3, tI 74 1, tI 71 0, tI 40 3, tI 7 0, tE 20 0, tI 11 4, tI 28 0, .ge (.a 400) 1, .le (.a 400) 34, .ge (.a 401) 1, .le (.a 401) 34, .ge (.a 402) 1, .le (.a 402) 34, .ge (.a 403) 1, .le (.a 403) 34, .ge (.a 13) 0]) : Fits4 val := by_eq 191 0 h (fun h => by_eq 194 1 h (fun h => lcG s_fits4 h [(.c 1)] (by kernel_rfl) (fun _ _ _ => by kernel_rfl))
 (fun h => lcG s_fits4 h [(.c 0)] (by kernel_rfl) (fun _ _ _ => by kernel_rfl)))
 (fun h => lcG s_fits4 h [(.c 0)] (by kernel_rfl) (fun _ _ _ => by kernel_rfl))

theorem fits4b_1 (val : Nat → Int) (h : Holds val [tN 160 3, tI 154 1, tI 151 0, tI 120 3, tI 114 1, tI 111 0, tI 80 3, tI 74 1, tI 71 0, tI 40 3, tI 7 0, tE 20 0, tI 11 4, tI 28 0, .ge (.a 400) 1, .le (.a 400) 34, .ge (.a 401) 1, .le (.a 401) 34, .ge (.a 402) 1, .le (.a 402) 34, .ge (.a 403) 1, .le (.a 403) 34, .ge (.a 13) 0]) : Fits4 val := by_eq 193 1 h (fun h => lcG s_fits4 h [(.c 1)] (by kernel_rfl) (fun _ _ _ => by kernel_rfl))
 (fun h => lcG s_fits4 h [(.c 0)] (by kernel_rfl) (fun _ _ _ => by kernel_rfl))

theorem fits4b_2 (val : Nat → Int) (h : Holds val [tN 154 1, tI 151 0, tI 120 3, tI 114 1, tI 111 0, tI 80 3, tI 74 1, tI 71 0, tI 40 3, tI 7 0, tE 20 0, tI 11 4, tI 28 0, .ge (.a 400) 1, .le (.a 400) 34, .ge (.a 401) 1, .le (.a 401) 34, .ge (.a 402) 1, .le (.a 402) 34, .ge (.a 403) 1, .le (.a 403) 34, .ge (.a 13) 0]) : Fits4 val := lcG s_fits4 h [(.c 0)] (by kernel_rfl) (fun _ _ _ => by kernel_rfl)

theorem fits4b_3 (val : Nat → Int) (h : Holds val [tN 151 0, tI 120 3, tI 114 1, tI 111 0, tI 80 3, tI 74 1, tI 71 0, tI 40 3, tI 7 0, tE 20 0, tI 11 4, tI 28 0, .ge (.a 400) 1, .le (.a 400) 34, .ge (.a 401) 1, .le (.a 401) 34, .ge (.a 402) 1, .le (.a 402) 34, .ge (.a 403) 1, .le (.a 403) 34, .ge (.a 13) 0]) : Fits4 val := lcG s_fits4 h [(.c 0)] (by kernel_rfl) (fun _ _ _ => by kernel_rfl)

theorem fits4b_4 (val : Nat → Int) (h : Holds val [tI 160 3, tI 153 1, tN 120 3, tI 114 1, tI 111 0, tI 80 3, tI 74 1, tI 71 0, tI 40 3, tI 7 0, tE 20 0, tI 11 4, tI 28 0, .ge (.a 400) 1, .le (.a 400) 34, .ge (.a 401) 1, .le (.a 401) 34, .ge (.a 402) 1, .le (.a 402) 34, .ge (.a 403) 1, .le (.a 403) 34, .ge (.a 13) 0]) : Fits4 val := by_eq 191 0 h (fun h => by_eq 194 1 h (fun h => lcG s_fits4 h [(.c 1)] (by kernel_rfl) (fun _ _ _ => by kernel_rfl))
 (fun h => lcG s_fits4 h [(.c 0)] (by kernel_rfl) (fun _ _ _ => by kernel_rfl)))
 (fun h => lcG s_fits4 h [(.c 0)] (by kernel_rfl) (fun _ _ _ => by kernel_rfl))

theorem fits4b_5 (val : Nat → Int) (h : Holds val [tN 160 3, tI 153 1, tN 120 3, tI 114 1, tI 111 0, tI 80 3, tI 74 1, tI 71 0, tI 40 3, tI 7 0, tE 20 0, tI 11 4, tI 28 0, .ge (.a 400) 1, .le (.a 400) 34, .ge (.a 401) 1, .le (.a 401) 34, .ge (.a 402) 1, .le (.a 402) 34, .ge (.a 403) 1, .le (.a 403) 34, .ge (.a 13) 0]) : Fits4 val := by_eq 193 1 h (fun h => lcG s_fits4 h [(.c 1)] (by kernel_rfl) (fun _ _ _ => by kernel_rfl))
 (fun h => lcG s_fits4 h [(.c 0)] (by kernel_rfl) (fun _ _ _ => by kernel_rfl))

theorem fits4b_6 (val : Nat → Int) (h : Holds val [tN 153 1, tN 120 3, tI 114 1, tI 111 0, tI 80 3, tI 74 1, tI 71 0, tI 40 3, tI 7 0, tE 20 0, tI 11 4, tI 28 0, .ge (.a 400) 1, .le (.a 400) 34, .ge (.a 401) 1, .le (.a 401) 34, .ge (.a 402) 1, .le (.a 402) 34, .ge (.a 403) 1, .le (.a 403) 34, .ge (.a 13) 0]) : Fits4 val := lcG s_fits4 h [(.c 0)] (by kernel_rfl) (fun _ _ _ => by kernel_rfl)

theorem fits4b_7 (val : Nat → Int) (h : Holds val [tN 114 1, tI 111 0, tI 80 3, tI 74 1, tI 71 0, tI 40 3, tI 7 0, tE 20 0, tI 11 4, tI 28 0, .ge (.a 400) 1, .le (.a 400) 34, .ge (.a 401) 1, .le (.a 401) 34, .ge (.a 402) 1, .le (.a 402) 34, .ge (.a 403) 1, .le (.a 403) 34, .ge (.a 13) 0]) : Fits4 val := lcG s_fits4 h [(.c 0)] (by kernel_rfl) (fun _ _ _ => by kernel_rfl)

theorem fits4b_8 (val : Nat → Int) (h : Holds val [tN 111 0, tI 80 3, tI 74 1, tI 71 0, tI 40 3, tI 7 0, tE 20 0, tI 11 4, tI 28 0, .ge (.a 400) 1, .le (.a 400) 34, .ge (.a 401) 1, .le (.a 401) 34, .ge (.a 402) 1, .le (.a 402) 34, .ge (.a 403) 1, .le (.a 403) 34, .ge (.a 13) 0]) : Fits4 val := lcG s_fits4 h [(.c 0)] (by kernel_rfl) (fun _ _ _ => by kernel_rfl)

theorem fits4b_9 (val : Nat → Int) (h : Holds val [tI 160 3, tI 154 1, tI 151 0, tI 120 3, tI 113 1, tN 80 3, tI 74 1, tI 71 0, tI 40 3, tI 7 0, tE 20 0, tI 11 4, tI 28 0, .ge (.a 400) 1, .le (.a 400) 34, .ge (.a 401) 1, .le (.a 401) 34, .ge (.a 402) 1, .le (.a 402) 34, .ge (.a 403) 1, .le (.a 403) 34, .ge (.a 13) 0]) : Fits4 val := by_eq 191 0 h (fun h => by_eq 194 1 h (fun h => lcG s_fits4 h [(.c 1)] (by kernel_rfl) (fun _ _ _ => by kernel_rfl))
 (fun h => lcG s_fits4 h [(.c 0)] (by kernel_rfl) (fun _ _ _ => by kernel_rfl)))
 (fun h => lcG s_fits4 h [(.c 0)] (by kernel_rfl) (fun _ _ _ => by kernel_rfl))

theorem fits4b_10 (val : Nat → Int) (h : Holds val [tN 160 3, tI 154 1, tI 151 0, tI 120 3, tI 113 1, tN 80 3, tI 74 1, tI 71 0, tI 40 3, tI 7 0, tE 20 0, tI 11 4, tI 28 0, .ge (.a 400) 1, .le (.a 400) 34, .ge (.a 401) 1, .le (.a 401) 34, .ge (.a 402) 1, .le (.a 402) 34, .ge (.a 403) 1, .le (.a 403) 34, .ge (.a 13) 0]) : Fits4 val := by_eq 193 1 h (fun h => lcG s_fits4 h [(.c 1)] (by kernel_rfl) (fun _ _ _ => by kernel_rfl))
 (fun h => lcG s_fits4 h [(.c 0)] (by kernel_rfl) (fun _ _ _ => by kernel_rfl))

theorem fits4b_11 (val : Nat → Int) (h : Holds val [tN 154 1, tI 151 0, tI 120 3, tI 113 1, tN 80 3, tI 74 1, tI 71 0, tI 40 3, tI 7 0, tE 20 0, tI 11 4, tI 28 0, .ge (.a 400) 1, .le (.a 400) 34, .ge (.a 401) 1, .le (.a 401) 34, .ge (.a 402) 1, .le (.a 402) 34, .ge (.a 403) 1, .le (.a 403) 34, .ge (.a 13) 0]) : Fits4 val := lcG s_fits4 h [(.c 0)] (by kernel_rfl) (fun _ _ _ => by kernel_rfl)

theorem fits4b_12 (val : Nat → Int) (h : Holds val [tN 151 0, tI 120 3, tI 113 1, tN 80 3, tI 74 1, tI 71 0, tI 40 3, tI 7 0, tE 20 0, tI 11 4, tI 28 0, .ge (.a 400) 1, .le (.a 400) 34, .ge (.a 401) 1, .le (.a 401) 34, .ge (.a 402) 1, .le (.a 402) 34, .ge (.a 403) 1, .le (.a 403) 34, .ge (.a 13) 0]) : Fits4 val := lcG s_fits4 h [(.c 0)] (by kernel_rfl) (fun _ _ _ => by kernel_rfl)

theorem fits4b_13 (val : Nat → Int) (h : Holds val [tI 160 3, tI 153 1, tN 120 3, tI 113 1, tN 80 3, tI 74 1, tI 71 0, tI 40 3, tI 7 0, tE 20 0, tI 11 4, tI 28 0, .ge (.a 400) 1, .le (.a 400) 34, .ge (.a 401) 1, .le (.a 401) 34, .ge (.a 402) 1, .le (.a 402) 34, .ge (.a 403) 1, .le (.a 403) 34, .ge (.a 13) 0]) : Fits4 val := by_eq 191 0 h (fun h => by_eq 194 1 h (fun h => lcG s_fits4 h [(.c 1)] (by kernel_rfl) (fun _ _ _ => by kernel_rfl))
 (fun h => lcG s_fits4 h [(.c 0)] (by kernel_rfl) (fun _ _ _ => by kernel_rfl)))
 (fun h => lcG s_fits4 h [(.c 0)] (by kernel_rfl) (fun _ _ _ => by kernel_rfl))

theorem fits4b_14 (val : Nat → Int) (h : Holds val [tN 160 3, tI 153 1, tN 120 3, tI 113 1, tN 80 3, tI 74 1, tI 71 0, tI 40 3, tI 7 0, tE 20 0, tI 11 4, tI 28 0, .ge (.a 400) 1, .le (.a 400) 34, .ge (.a 401) 1, .le (.a 401) 34, .ge (.a 402) 1, .le (.a 402) 34, .ge (.a 403) 1, .le (.a 403) 34, .ge (.a 13) 0]) : Fits4 val := by_eq 193 1 h (fun h => lcG s_fits4 h [(.c 1)] (by kernel_rfl) (fun _ _ _ => by kernel_rfl))
 (fun h => lcG s_fits4 h [(.c 0)] (by kernel_rfl) (fun _ _ _ => by kernel_rfl))

theorem fits4b_15 (val : Nat → Int) (h : Holds val [tN 153 1, tN 120 3, tI 113 1, tN 80 3, tI 74 1, tI 71 0, tI 40 3, tI 7 0, tE 20 0, tI 11 4, tI 28 0, .ge (.a 400) 1, .le (.a 400) 34, .ge (.a 401) 1, .le (.a 401) 34, .ge (.a 402) 1, .le (.a 402) 34, .ge (.a 403) 1, .le (.a 403) 34, .ge (.a 13) 0]) : Fits4 val := lcG s_fits4 h [(.c 0)] (by kernel_rfl) (fun _ _ _ => by kernel_rfl)

theorem fits4b_16 (val : Nat → Int) (h : Holds val [tN 113 1, tN 80 3, tI 74 1, tI 71 0, tI 40 3, tI 7 0, tE 20 0, tI 11 4, tI 28 0, .ge (.a 400) 1, .le (.a 400) 34, .ge (.a 401) 1, .le (.a 401) 34, .ge (.a 402) 1, .le (.a 402) 34, .ge (.a 403) 1, .le (.a 403) 34, .ge (.a 13) 0]) : Fits4 val := lcG s_fits4 h [(.c 0)] (by kernel_rfl) (fun _ _ _ => by kernel_rfl)

theorem fits4b_17 (val : Nat → Int) (h : Holds val [tN 74 1, tI 71 0, tI 40 3, tI 7 0, tE 20 0, tI 11 4, tI 28 0, .ge (.a 400) 1, .le (.a 400) 34, .ge (.a 401) 1, .le (.a 401) 34, .ge (.a 402) 1, .le (.a 402) 34, .ge (.a 403) 1, .le (.a 403) 34, .ge (.a 13) 0]) : Fits4 val := lcG s_fits4 h [(.c 0)] (by kernel_rfl) (fun _ _ _ => by kernel_rfl)

theorem fits4b_18 (val : Nat → Int) (h : Holds val [tN 71 0, tI 40 3, tI 7 0, tE 20 0, tI 11 4, tI 28 0, .ge (.a 400) 1, .le (.a 400) 34, .ge (.a 401) 1, .le (.a 401) 34, .ge (.a 402) 1, .le (.a 402) 34, .ge (.a 403) 1, .le (.a 403) 34, .ge (.a 13) 0]) : Fits4 val := lcG s_fits4 h [(.c 0)] (by kernel_rfl) (fun _ _ _ => by kernel_rfl)

theorem fits4b_19 (val : Nat → Int) (h : Holds val [tI 160 3, tI 154 1, tI 151 0, tI 120 3, tI 114 1, tI 111 0, tI 80 3, tI 73 1, tN 40 3, tI 7 0, tE 20 0, tI 11 4, tI 28 0, .ge (.a 400) 1, .le (.a 400) 34, .ge (.a 401) 1, .le (.a 401) 34, .ge (.a 402) 1, .le (.a 402) 34, .ge (.a 403) 1, .le (.a 403) 34, .ge (.a 13) 0]) : Fits4 val := by_eq 191 0 h (fun h => by_eq 194 1 h (fun h => lcG s_fits4 h [(.c 1)] (by kernel_rfl) (fun _ _ _ => by kernel_rfl))
 (fun h => lcG s_fits4 h [(.c 0)] (by kernel_rfl) (fun _ _ _ => by kernel_rfl)))
 (fun h => lcG s_fits4 h [(.c 0)] (by kernel_rfl) (fun _ _ _ => by kernel_rfl))

theorem fits4b_20 (val : Nat → Int) (h : Holds val [tN 160 3, tI 154 1, tI 151 0, tI 120 3, tI 114 1, tI 111 0, tI 80 3, tI 73 1, tN 40 3, tI 7 0, tE 20 0, tI 11 4, tI 28 0, .ge (.a 400) 1, .le (.a 400) 34, .ge (.a 401) 1, .le (.a 401) 34, .ge (.a 402) 1, .le (.a 402) 34, .ge (.a 403) 1, .le (.a 403) 34, .ge (.a 13) 0]) : Fits4 val := by_eq 193 1 h (fun h => lcG s_fits4 h [(.c 1)] (by kernel_rfl) (fun _ _ _ => by kernel_rfl))
 (fun h => lcG s_fits4 h [(.c 0)] (by kernel_rfl) (fun _ _ _ => by kernel_rfl))

theorem fits4b_21 (val : Nat → Int) (h : Holds val [tN 154 1, tI 151 0, tI 120 3, tI 114 1, tI 111 0, tI 80 3, tI 73 1, tN 40 3, tI 7 0, tE 20 0, tI 11 4, tI 28 0, .ge (.a 400) 1, .le (.a 400) 34, .ge (.a 401) 1, .le (.a 401) 34, .ge (.a 402) 1, .le (.a 402) 34, .ge (.a 403) 1, .le (.a 403) 34, .ge (.a 13) 0]) : Fits4 val := lcG s_fits4 h [(.c 0)] (by kernel_rfl) (fun _ _ _ => by kernel_rfl)

theorem fits4b_22 (val : Nat → Int) (h : Holds val [tN 151 0, tI 120 3, tI 114 1, tI 111 0, tI 80 3, tI 73 1, tN 40 3, tI 7 0, tE 20 0, tI 11 4, tI 28 0, .ge (.a 400) 1, .le (.a 400) 34, .ge (.a 401) 1, .le (.a 401) 34, .ge (.a 402) 1, .le (.a 402) 34, .ge (.a 403) 1, .le (.a 403) 34, .ge (.a 13) 0]) : Fits4 val := lcG s_fits4 h [(.c 0)] (by kernel_rfl) (fun _ _ _ => by kernel_rfl)

theorem fits4b_23 (val : Nat → Int) (h : Holds val [tI 160 3, tI 153 1, tN 120 3, tI 114 1, tI 111 0, tI 80 3, tI 73 1, tN 40 3, tI 7 0, tE 20 0, tI 11 4, tI 28 0, .ge (.a 400) 1, .le (.a 400) 34, .ge (.a 401) 1, .le (.a 401) 34, .ge (.a 402) 1, .le (.a 402) 34, .ge (.a 403) 1, .le (.a 403) 34, .ge (.a 13) 0]) : Fits4 val := by_eq 191 0 h (fun h => by_eq 194 1 h (fun h => lcG s_fits4 h [(.c 1)] (by kernel_rfl) (fun _ _ _ => by kernel_rfl))
 (fun h => lcG s_fits4 h [(.c 0)] (by kernel_rfl) (fun _ _ _ => by kernel_rfl)))
 (fun h => lcG s_fits4 h [(.c 0)] (by kernel_rfl) (fun _ _ _ => by kernel_rfl))

theorem fits4b_24 (val : Nat → Int) (h : Holds val [tN 160 3, tI 153 1, tN 120 3, tI 114 1, tI 111 0, tI 80 3, tI 73 1, tN 40 3, tI 7 0, tE 20 0, tI 11 4, tI 28 0, .ge (.a 400) 1, .le (.a 400) 34, .ge (.a 401) 1, .le (.a 401) 34, .ge (.a 402) 1, .le (.a 402) 34, .ge (.a 403) 1, .le (.a 403) 34, .ge (.a 13) 0]) : Fits4 val := by_eq 193 1 h (fun h => lcG s_fits4 h [(.c 1)] (by kernel_rfl) (fun _ _ _ => by kernel_rfl))
 (fun h => lcG s_fits4 h [(.c 0)] (by kernel_rfl) (fun _ _ _ => by kernel_rfl))

theorem fits4b_25 (val : Nat → Int) (h : Holds val [tN 153 1, tN 120 3, tI 114 1, tI 111 0, tI 80 3, tI 73 1, tN 40 3, tI 7 0, tE 20 0, tI 11 4, tI 28 0, .ge (.a 400) 1, .le (.a 400) 34, .ge (.a 401) 1, .le (.a 401) 34, .ge (.a 402) 1, .le (.a 402) 34, .ge (.a 403) 1, .le (.a 403) 34, .ge (.a 13) 0]) : Fits4 val := lcG s_fits4 h [(.c 0)] (by kernel_rfl) (fun _ _ _ => by kernel_rfl)

theorem fits4b_26 (val : Nat → Int) (h : Holds val [tN 114 1, tI 111 0, tI 80 3, tI 73 1, tN 40 3, tI 7 0, tE 20 0, tI 11 4, tI 28 0, .ge (.a 400) 1, .le (.a 400) 34, .ge (.a 401) 1, .le (.a 401) 34, .ge (.a 402) 1, .le (.a 402) 34, .ge (.a 403) 1, .le (.a 403) 34, .ge (.a 13) 0]) : Fits4 val := lcG s_fits4 h [(.c 0)] (by kernel_rfl) (fun _ _ _ => by kernel_rfl)

theorem fits4b_27 (val : Nat → Int) (h : Holds val [tN 111 0, tI 80 3, tI 73 1, tN 40 3, tI 7 0, tE 20 0, tI 11 4, tI 28 0, .ge (.a 400) 1, .le (.a 400) 34, .ge (.a 401) 1, .le (.a 401) 34, .ge (.a 402) 1, .le (.a 402) 34, .ge (.a 403) 1, .le (.a 403) 34, .ge (.a 13) 0]) : Fits4 val := lcG s_fits4 h [(.c 0)] (by kernel_rfl) (fun _ _ _ => by kernel_rfl)

theorem fits4b_28 (val : Nat → Int) (h : Holds val [tI 160 3, tI 154 1, tI 151 0, tI 120 3, tI 113 1, tN 80 3, tI 73 1, tN 40 3, tI 7 0, tE 20 0, tI 11 4, tI 28 0, .ge (.a 400) 1, .le (.a 400) 34, .ge (.a 401) 1, .le (.a 401) 34, .ge (.a 402) 1, .le (.a 402) 34, .ge (.a 403) 1, .le (.a 403) 34, .ge (.a 13) 0]) : Fits4 val := by_eq 191 0 h (fun h => by_eq 194 1 h (fun h => lcG s_fits4 h [(.c 1)] (by kernel_rfl) (fun _ _ _ => by kernel_rfl))
 (fun h => lcG s_fits4 h [(.c 0)] (by kernel_rfl) (fun _ _ _ => by kernel_rfl)))
 (fun h => lcG s_fits4 h [(.c 0)] (by kernel_rfl) (fun _ _ _ => by kernel_rfl))

theorem fits4b_29 (val : Nat → Int) (h : Holds val [tN 160 3, tI 154 1, tI 151 0, tI 120 3, tI 113 1, tN 80 3, tI 73 1, tN 40 3, tI 7 0, tE 20 0, tI 11 4, tI 28 0, .ge (.a 400) 1, .le (.a 400) 34, .ge (.a 401) 1, .le (.a 401) 34, .ge (.a 402) 1, .le (.a 402) 34, .ge (.a 403) 1, .le (.a 403) 34, .ge (.a 13) 0]) : Fits4 val := by_eq 193 1 h (fun h => lcG s_fits4 h [(.c 1)] (by kernel_rfl) (fun _ _ _ => by kernel_rfl))
 (fun h => lcG s_fits4 h [(.c 0)] (by kernel_rfl) (fun _ _ _ => by kernel_rfl))

theorem fits4b_30 (val : Nat → Int) (h : Holds val [tN 154 1, tI 151 0, tI 120 3, tI 113 1, tN 80 3, tI 73 1, tN 40 3, tI 7 0, tE 20 0, tI 11 4, tI 28 0, .ge (.a 400) 1, .le (.a 400) 34, .ge (.a 401) 1, .le (.a 401) 34, .ge (.a 402) 1, .le (.a 402) 34, .ge (.a 403) 1, .le (.a 403) 34, .ge (.a 13) 0]) : Fits4 val := lcG s_fits4 h [(.c 0)] (by kernel_rfl) (fun _ _ _ => by kernel_rfl)

theorem fits4b_31 (val : Nat → Int) (h : Holds val [tN 151 0, tI 120 3, tI 113 1, tN 80 3, tI 73 1, tN 40 3, tI 7 0, tE 20 0, tI 11 4, tI 28 0, .ge (.a 400) 1, .le (.a 400) 34, .ge (.a 401) 1, .le (.a 401) 34, .ge (.a 402) 1, .le (.a 402) 34, .ge (.a 403) 1, .le (.a 403) 34, .ge (.a 13) 0]) : Fits4 val := lcG s_fits4 h [(.c 0)] (by kernel_rfl) (fun _ _ _ => by kernel_rfl)

theorem fits4b_32 (val : Nat → Int) (h : Holds val [tI 160 3, tI 153 1, tN 120 3, tI 113 1, tN 80 3, tI 73 1, tN 40 3, tI 7 0, tE 20 0, tI 11 4, tI 28 0, .ge (.a 400) 1, .le (.a 400) 34, .ge (.a 401) 1, .le (.a 401) 34, .ge (.a 402) 1, .le (.a 402) 34, .ge (.a 403) 1, .le (.a 403) 34, .ge (.a 13) 0]) : Fits4 val := by_eq 191 0 h (fun h => by_eq 194 1 h (fun h => lcG s_fits4 h [(.c 1)] (by kernel_rfl) (fun _ _ _ => by kernel_rfl))
 (fun h => lcG s_fits4 h [(.c 0)] (by kernel_rfl) (fun _ _ _ => by kernel_rfl)))
 (fun h => lcG s_fits4 h [(.c 0)] (by kernel_rfl) (fun _ _ _ => by kernel_rfl))

theorem fits4b_33 (val : Nat → Int) (h : Holds val [tN 160 3, tI 153 1, tN 120 3, tI 113 1, tN 80 3, tI 73 1, tN 40 3, tI 7 0, tE 20 0, tI 11 4, tI 28 0, .ge (.a 400) 1, .le (.a 400) 34, .ge (.a 401) 1, .le (.a 401) 34, .ge (.a 402) 1, .le (.a 402) 34, .ge (.a 403) 1, .le (.a 403) 34, .ge (.a 13) 0]) : Fits4 val := by_eq 193 1 h (fun h => lcG s_fits4 h [(.c 1)] (by kernel_rfl) (fun _ _ _ => by kernel_rfl))
 (fun h => lcG s_fits4 h [(.c 0)] (by kernel_rfl) (fun _ _ _ => by kernel_rfl))

theorem fits4b_34 (val : Nat → Int) (h : Holds val [tN 153 1, tN 120 3, tI 113 1, tN 80 3, tI 73 1, tN 40 3, tI 7 0, tE 20 0, tI 11 4, tI 28 0, .ge (.a 400) 1, .le (.a 400) 34, .ge (.a 401) 1, .le (.a 401) 34, .ge (.a 402) 1, .le (.a 402) 34, .ge (.a 403) 1, .le (.a 403) 34, .ge (.a 13) 0]) : Fits4 val := lcG s_fits4 h [(.c 0)] (by kernel_rfl) (fun _ _ _ => by kernel_rfl)

theorem fits4b_35 (val : Nat → Int) (h : Holds val [tN 113 1, tN 80 3, tI 73 1, tN 40 3, tI 7 0, tE 20 0, tI 11 4, tI 28 0, .ge (.a 400) 1, .le (.a 400) 34, .ge (.a 401) 1, .le (.a 401) 34, .ge (.a 402) 1, .le (.a 402) 34, .ge (.a 403) 1, .le (.a 403) 34, .ge (.a 13) 0]) : Fits4 val := lcG s_fits4 h [(.c 0)] (by kernel_rfl) (fun _ _ _ => by kernel_rfl)

theorem fits4b_36 (val : Nat → Int) (h : Holds val [tN 73 1, tN 40 3, tI 7 0, tE 20 0, tI 11 4, tI 28 0, .ge (.a 400) 1, .le (.a 400) 34, .ge (.a 401) 1, .le (.a 401) 34, .ge (.a 402) 1, .le (.a 402) 34, .ge (.a 403) 1, .le (.a 403) 34, .ge (.a 13) 0]) : Fits4 val := lcG s_fits4 h [(.c 0)] (by kernel_rfl) (fun _ _ _ => by kernel_rfl)

theorem fits4b_37 (val : Nat → Int) (h : Holds val [tN 7 0, tE 20 0, tI 11 4, tI 28 0, .ge (.a 400) 1, .le (.a 400) 34, .ge (.a 401) 1, .le (.a 401) 34, .ge (.a 402) 1, .le (.a 402) 34, .ge (.a 403) 1, .le (.a 403) 34, .ge (.a 13) 0]) : Fits4 val := lcG s_fits4 h [(.c 0)] (by kernel_rfl) (fun _ _ _ => by kernel_rfl)

theorem fits4b_38 (val : Nat → Int) (h : Holds val [tD 20 0, tI 11 4, tI 28 0, .ge (.a 400) 1, .le (.a 400) 34, .ge (.a 401) 1, .le (.a 401) 34, .ge (.a 402) 1, .le (.a 402) 34, .ge (.a 403) 1, .le (.a 403) 34, .ge (.a 13) 0]) : Fits4 val := lcG s_fits4 h [(.c 0)] (by kernel_rfl) (fun _ _ _ => by kernel_rfl)

theorem fits4b (val : Nat → Int) (h : Holds val [.is (.a 11) 4, .is (.a 28) 0, .ge (.a 400) 1, .le (.a 400) 34, .ge (.a 401) 1, .le (.a 401) 34, .ge (.a 402) 1, .le (.a 402) 34, .ge (.a 403) 1, .le (.a 403) 34, .ge (.a 13) 0]) : Fits4 val := by_e2 20 0 h (fun h => by_eq 7 0 h (fun h => by_eq 40 3 h (fun h => by_eq 71 0 h (fun h => by_eq 74 1 h (fun h => by_eq 80 3 h (fun h => by_eq 111 0 h (fun h => by_eq 114 1 h (fun h => by_eq 120 3 h (fun h => by_eq 151 0 h (fun h => by_eq 154 1 h (fun h => by_eq 160 3 h (fun h => fits4b_0 val h)
 (fun h => fits4b_1 val h))
 (fun h => fits4b_2 val h))
 (fun h => fits4b_3 val h))
 (fun h => by_eq 153 1 h (fun h => by_eq 160 3 h (fun h => fits4b_4 val h)
 (fun h => fits4b_5 val h))
 (fun h => fits4b_6 val h)))
 (fun h => fits4b_7 val h))
 (fun h => fits4b_8 val h))
 (fun h => by_eq 113 1 h (fun h => by_eq 120 3 h (fun h => by_eq 151 0 h (fun h => by_eq 154 1 h (fun h => by_eq 160 3 h (fun h => fits4b_9 val h)
 (fun h => fits4b_10 val h))
 (fun h => fits4b_11 val h))
 (fun h => fits4b_12 val h))
 (fun h => by_eq 153 1 h (fun h => by_eq 160 3 h (fun h => fits4b_13 val h)
 (fun h => fits4b_14 val h))
 (fun h => fits4b_15 val h)))
 (fun h => fits4b_16 val h)))
 (fun h => fits4b_17 val h))
 (fun h => fits4b_18 val h))
 (fun h => by_eq 73 1 h (fun h => by_eq 80 3 h (fun h => by_eq 111 0 h (fun h => by_eq 114 1 h (fun h => by_eq 120 3 h (fun h => by_eq 151 0 h (fun h => by_eq 154 1 h (fun h => by_eq 160 3 h (fun h => fits4b_19 val h)
 (fun h => fits4b_20 val h))
 (fun h => fits4b_21 val h))
 (fun h => fits4b_22 val h))
 (fun h => by_eq 153 1 h (fun h => by_eq 160 3 h (fun h => fits4b_23 val h)
 (fun h => fits4b_24 val h))
 (fun h => fits4b_25 val h)))
 (fun h => fits4b_26 val h))
 (fun h => fits4b_27 val h))
 (fun h => by_eq 113 1 h (fun h => by_eq 120 3 h (fun h => by_eq 151 0 h (fun h => by_eq 154 1 h (fun h => by_eq 160 3 h (fun h => fits4b_28 val h)
 (fun h => fits4b_29 val h))
 (fun h => fits4b_30 val h))
 (fun h => fits4b_31 val h))
 (fun h => by_eq 153 1 h (fun h => by_eq 160 3 h (fun h => fits4b_32 val h)
 (fun h => fits4b_33 val h))
 (fun h => fits4b_34 val h)))
 (fun h => fits4b_35 val h)))
 (fun h => fits4b_36 val h)))
 (fun h => fits4b_37 val h))
 (fun h => fits4b_38 val h)

end Go.Proofs.Ytlggmhchgicjkaa.Tab
