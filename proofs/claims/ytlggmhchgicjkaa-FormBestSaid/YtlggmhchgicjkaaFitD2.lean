/-
  Ways through the code, part 2.
-/
import Derived.Test.YtlggmhchgicjkaaFitH
namespace Go.Proofs.Ytlggmhchgicjkaa.Tab
open Go.Sim
set_option maxRecDepth 100000
set_option linter.unusedSimpArgs false
set_option maxHeartbeats 4000000

theorem fits2b_0 (val : Nat → Int) (h : Holds val [tI 80 3, tI 74 1, tI 71 0, tI 40 3, tI 7 0, tE 20 0, tI 11 2, tI 28 0, .ge (.a 400) 1, .le (.a 400) 34, .ge (.a 401) 1, .le (.a 401) 34, .ge (.a 13) 0]) : Fits2 val := by_eq 111 0 h (fun h => by_eq 114 1 h (fun h => lcG s_fits2 h [(.c 1)] (by kernel_rfl) (fun _ _ _ => by kernel_rfl))
 (fun h => lcG s_fits2 h [(.c 0)] (by kernel_rfl) (fun _ _ _ => by kernel_rfl)))
 (fun h => lcG s_fits2 h [(.c 0)] (by kernel_rfl) (fun _ _ _ => by kernel_rfl))

theorem fits2b_1 (val : Nat → Int) (h : Holds val [tN 80 3, tI 74 1, tI 71 0, tI 40 3, tI 7 0, tE 20 0, tI 11 2, tI 28 0, .ge (.a 400) 1, .le (.a 400) 34, .ge (.a 401) 1, .le (.a 401) 34, .ge (.a 13) 0]) : Fits2 val := by_eq 113 1 h (fun h => lcG s_fits2 h [(.c 1)] (by kernel_rfl) (fun _ _ _ => by kernel_rfl))
 (fun h => lcG s_fits2 h [(.c 0)] (by kernel_rfl) (fun _ _ _ => by kernel_rfl))

theorem fits2b_2 (val : Nat → Int) (h : Holds val [tN 74 1, tI 71 0, tI 40 3, tI 7 0, tE 20 0, tI 11 2, tI 28 0, .ge (.a 400) 1, .le (.a 400) 34, .ge (.a 401) 1, .le (.a 401) 34, .ge (.a 13) 0]) : Fits2 val := lcG s_fits2 h [(.c 0)] (by kernel_rfl) (fun _ _ _ => by kernel_rfl)

theorem fits2b_3 (val : Nat → Int) (h : Holds val [tN 71 0, tI 40 3, tI 7 0, tE 20 0, tI 11 2, tI 28 0, .ge (.a 400) 1, .le (.a 400) 34, .ge (.a 401) 1, .le (.a 401) 34, .ge (.a 13) 0]) : Fits2 val := lcG s_fits2 h [(.c 0)] (by kernel_rfl) (fun _ _ _ => by kernel_rfl)

theorem fits2b_4 (val : Nat → Int) (h : Holds val [tI 80 3, tI 73 1, tN 40 3, tI 7 0, tE 20 0, tI 11 2, tI 28 0, .ge (.a 400) 1, .le (.a 400) 34, .ge (.a 401) 1, .le (.a 401) 34, .ge (.a 13) 0]) : Fits2 val := by_eq 111 0 h (fun h => by_eq 114 1 h (fun h => lcG s_fits2 h [(.c 1)] (by kernel_rfl) (fun _ _ _ => by kernel_rfl))
 (fun h => lcG s_fits2 h [(.c 0)] (by kernel_rfl) (fun _ _ _ => by kernel_rfl)))
 (fun h => lcG s_fits2 h [(.c 0)] (by kernel_rfl) (fun _ _ _ => by kernel_rfl))

theorem fits2b_5 (val : Nat → Int) (h : Holds val [tN 80 3, tI 73 1, tN 40 3, tI 7 0, tE 20 0, tI 11 2, tI 28 0, .ge (.a 400) 1, .le (.a 400) 34, .ge (.a 401) 1, .le (.a 401) 34, .ge (.a 13) 0]) : Fits2 val := by_eq 113 1 h (fun h => lcG s_fits2 h [(.c 1)] (by kernel_rfl) (fun _ _ _ => by kernel_rfl))
 (fun h => lcG s_fits2 h [(.c 0)] (by kernel_rfl) (fun _ _ _ => by kernel_rfl))

theorem fits2b_6 (val : Nat → Int) (h : Holds val [tN 73 1, tN 40 3, tI 7 0, tE 20 0, tI 11 2, tI 28 0, .ge (.a 400) 1, .le (.a 400) 34, .ge (.a 401) 1, .le (.a 401) 34, .ge (.a 13) 0]) : Fits2 val := lcG s_fits2 h [(.c 0)] (by kernel_rfl) (fun _ _ _ => by kernel_rfl)

theorem fits2b_7 (val : Nat → Int) (h : Holds val [tN 7 0, tE 20 0, tI 11 2, tI 28 0, .ge (.a 400) 1, .le (.a 400) 34, .ge (.a 401) 1, .le (.a 401) 34, .ge (.a 13) 0]) : Fits2 val := lcG s_fits2 h [(.c 0)] (by kernel_rfl) (fun _ _ _ => by kernel_rfl)

theorem fits2b_8 (val : Nat → Int) (h : Holds val [tD 20 0, tI 11 2, tI 28 0, .ge (.a 400) 1, .le (.a 400) 34, .ge (.a 401) 1, .le (.a 401) 34, .ge (.a 13) 0]) : Fits2 val := lcG s_fits2 h [(.c 0)] (by kernel_rfl) (fun _ _ _ => by kernel_rfl)

theorem fits2b (val : Nat → Int) (h : Holds val [.is (.a 11) 2, .is (.a 28) 0, .ge (.a 400) 1, .le (.a 400) 34, .ge (.a 401) 1, .le (.a 401) 34, .ge (.a 13) 0]) : Fits2 val := by_e2 20 0 h (fun h => by_eq 7 0 h (fun h => by_eq 40 3 h (fun h => by_eq 71 0 h (fun h => by_eq 74 1 h (fun h => by_eq 80 3 h (fun h => fits2b_0 val h)
 (fun h => fits2b_1 val h))
 (fun h => fits2b_2 val h))
 (fun h => fits2b_3 val h))
 (fun h => by_eq 73 1 h (fun h => by_eq 80 3 h (fun h => fits2b_4 val h)
 (fun h => fits2b_5 val h))
 (fun h => fits2b_6 val h)))
 (fun h => fits2b_7 val h))
 (fun h => fits2b_8 val h)


theorem fits8a (val : Nat → Int) (h : Holds val [.is (.a 11) 8, .ne (.a 28) 0, .ge (.a 13) 0]) : Fits8 val := by_e2 20 0 h (fun h => lcG s_fits8 h [(.c 0)] (by kernel_rfl) (fun _ _ _ => by kernel_rfl))
 (fun h => lcG s_fits8 h [(.c 0)] (by kernel_rfl) (fun _ _ _ => by kernel_rfl))


theorem fits7a (val : Nat → Int) (h : Holds val [.is (.a 11) 7, .ne (.a 28) 0, .ge (.a 13) 0]) : Fits7 val := by_e2 20 0 h (fun h => lcG s_fits7 h [(.c 0)] (by kernel_rfl) (fun _ _ _ => by kernel_rfl))
 (fun h => lcG s_fits7 h [(.c 0)] (by kernel_rfl) (fun _ _ _ => by kernel_rfl))


theorem fits6c (val : Nat → Int) (h : Holds val [.ne (.a 11) 6, .ge (.a 11) 0, .ge (.a 13) 0]) : Fits6 val := by_e2 20 0 h (fun h => lcG s_fits6 h [(.c 0)] (by kernel_rfl) (fun _ _ _ => by kernel_rfl))
 (fun h => lcG s_fits6 h [(.c 0)] (by kernel_rfl) (fun _ _ _ => by kernel_rfl))


theorem fits5c (val : Nat → Int) (h : Holds val [.ne (.a 11) 5, .ge (.a 11) 0, .ge (.a 13) 0]) : Fits5 val := by_e2 20 0 h (fun h => lcG s_fits5 h [(.c 0)] (by kernel_rfl) (fun _ _ _ => by kernel_rfl))
 (fun h => lcG s_fits5 h [(.c 0)] (by kernel_rfl) (fun _ _ _ => by kernel_rfl))


theorem fits4c (val : Nat → Int) (h : Holds val [.ne (.a 11) 4, .ge (.a 11) 0, .ge (.a 13) 0]) : Fits4 val := by_e2 20 0 h (fun h => lcG s_fits4 h [(.c 0)] (by kernel_rfl) (fun _ _ _ => by kernel_rfl))
 (fun h => lcG s_fits4 h [(.c 0)] (by kernel_rfl) (fun _ _ _ => by kernel_rfl))


theorem fits3c (val : Nat → Int) (h : Holds val [.ne (.a 11) 3, .ge (.a 11) 0, .ge (.a 13) 0]) : Fits3 val := by_e2 20 0 h (fun h => lcG s_fits3 h [(.c 0)] (by kernel_rfl) (fun _ _ _ => by kernel_rfl))
 (fun h => lcG s_fits3 h [(.c 0)] (by kernel_rfl) (fun _ _ _ => by kernel_rfl))


theorem fits3a (val : Nat → Int) (h : Holds val [.is (.a 11) 3, .ne (.a 28) 0, .ge (.a 13) 0]) : Fits3 val := by_e2 20 0 h (fun h => lcG s_fits3 h [(.c 0)] (by kernel_rfl) (fun _ _ _ => by kernel_rfl))
 (fun h => lcG s_fits3 h [(.c 0)] (by kernel_rfl) (fun _ _ _ => by kernel_rfl))


theorem fits0b (val : Nat → Int) (h : Holds val [.is (.a 11) 0, .is (.a 28) 0, .ge (.a 13) 0, .is (.a 38) 0]) : Fits0 val := by_e2 20 0 h (fun h => by_eq 7 0 h (fun h => lcG s_fits0 h [(.c 1)] (by kernel_rfl) (fun _ _ _ => by kernel_rfl))
 (fun h => lcG s_fits0 h [(.c 0)] (by kernel_rfl) (fun _ _ _ => by kernel_rfl)))
 (fun h => lcG s_fits0 h [(.c 0)] (by kernel_rfl) (fun _ _ _ => by kernel_rfl))


theorem fits0c (val : Nat → Int) (h : Holds val [.ne (.a 11) 0, .ge (.a 11) 0, .ge (.a 13) 0, .is (.a 38) 0]) : Fits0 val := by_e2 20 0 h (fun h => lcG s_fits0 h [(.c 0)] (by kernel_rfl) (fun _ _ _ => by kernel_rfl))
 (fun h => lcG s_fits0 h [(.c 0)] (by kernel_rfl) (fun _ _ _ => by kernel_rfl))


theorem fits0za (val : Nat → Int) (h : Holds val [.is (.a 11) 0, .ne (.a 28) 0, .is (.a 13) 0, .is (.a 38) 0]) : Fits0z val := by_e2 20 0 h (fun h => lcG s_fits0z h [(.c 0)] (by kernel_rfl) (fun _ _ _ => by kernel_rfl))
 (fun h => lcG s_fits0z h [(.c 0)] (by kernel_rfl) (fun _ _ _ => by kernel_rfl))

end Go.Proofs.Ytlggmhchgicjkaa.Tab
