/-
  Ways through the code, part 3.
-/
import Derived.Test.YtlggmhchgicjkaaFitH
namespace Go.Proofs.Ytlggmhchgicjkaa.Tab
open Go.Sim
set_option maxRecDepth 100000
set_option linter.unusedSimpArgs false
set_option maxHeartbeats 4000000

theorem fits9c (val : Nat → Int) (h : Holds val [.ne (.a 11) 9, .ge (.a 11) 0, .ge (.a 13) 0]) : Fits9 val := by_e2 20 0 h (fun h => lcG s_fits9 h [(.c 0)] (by kernel_rfl) (fun _ _ _ => by kernel_rfl))
 (fun h => lcG s_fits9 h [(.c 0)] (by kernel_rfl) (fun _ _ _ => by kernel_rfl))


theorem fits9a (val : Nat → Int) (h : Holds val [.is (.a 11) 9, .ne (.a 28) 0, .ge (.a 13) 0]) : Fits9 val := by_e2 20 0 h (fun h => lcG s_fits9 h [(.c 0)] (by kernel_rfl) (fun _ _ _ => by kernel_rfl))
 (fun h => lcG s_fits9 h [(.c 0)] (by kernel_rfl) (fun _ _ _ => by kernel_rfl))


theorem fits8c (val : Nat → Int) (h : Holds val [.ne (.a 11) 8, .ge (.a 11) 0, .ge (.a 13) 0]) : Fits8 val := by_e2 20 0 h (fun h => lcG s_fits8 h [(.c 0)] (by kernel_rfl) (fun _ _ _ => by kernel_rfl))
 (fun h => lcG s_fits8 h [(.c 0)] (by kernel_rfl) (fun _ _ _ => by kernel_rfl))


theorem fits7c (val : Nat → Int) (h : Holds val [.ne (.a 11) 7, .ge (.a 11) 0, .ge (.a 13) 0]) : Fits7 val := by_e2 20 0 h (fun h => lcG s_fits7 h [(.c 0)] (by kernel_rfl) (fun _ _ _ => by kernel_rfl))
 (fun h => lcG s_fits7 h [(.c 0)] (by kernel_rfl) (fun _ _ _ => by kernel_rfl))

theorem fits1b_0 (val : Nat → Int) (h : Holds val [tI 40 3, tI 7 0, tE 20 0, tI 11 1, tI 28 0, .ge (.a 400) 1, .le (.a 400) 34, .ge (.a 13) 0]) : Fits1 val := by_eq 71 0 h (fun h => by_eq 74 1 h (fun h => lcG s_fits1 h [(.c 1)] (by kernel_rfl) (fun _ _ _ => by kernel_rfl))
 (fun h => lcG s_fits1 h [(.c 0)] (by kernel_rfl) (fun _ _ _ => by kernel_rfl)))
 (fun h => lcG s_fits1 h [(.c 0)] (by kernel_rfl) (fun _ _ _ => by kernel_rfl))

theorem fits1b_1 (val : Nat → Int) (h : Holds val [tN 40 3, tI 7 0, tE 20 0, tI 11 1, tI 28 0, .ge (.a 400) 1, .le (.a 400) 34, .ge (.a 13) 0]) : Fits1 val := by_eq 73 1 h (fun h => lcG s_fits1 h [(.c 1)] (by kernel_rfl) (fun _ _ _ => by kernel_rfl))
 (fun h => lcG s_fits1 h [(.c 0)] (by kernel_rfl) (fun _ _ _ => by kernel_rfl))

theorem fits1b_2 (val : Nat → Int) (h : Holds val [tN 7 0, tE 20 0, tI 11 1, tI 28 0, .ge (.a 400) 1, .le (.a 400) 34, .ge (.a 13) 0]) : Fits1 val := lcG s_fits1 h [(.c 0)] (by kernel_rfl) (fun _ _ _ => by kernel_rfl)

theorem fits1b_3 (val : Nat → Int) (h : Holds val [tD 20 0, tI 11 1, tI 28 0, .ge (.a 400) 1, .le (.a 400) 34, .ge (.a 13) 0]) : Fits1 val := lcG s_fits1 h [(.c 0)] (by kernel_rfl) (fun _ _ _ => by kernel_rfl)

theorem fits1b (val : Nat → Int) (h : Holds val [.is (.a 11) 1, .is (.a 28) 0, .ge (.a 400) 1, .le (.a 400) 34, .ge (.a 13) 0]) : Fits1 val := by_e2 20 0 h (fun h => by_eq 7 0 h (fun h => by_eq 40 3 h (fun h => fits1b_0 val h)
 (fun h => fits1b_1 val h))
 (fun h => fits1b_2 val h))
 (fun h => fits1b_3 val h)


theorem fits6a (val : Nat → Int) (h : Holds val [.is (.a 11) 6, .ne (.a 28) 0, .ge (.a 13) 0]) : Fits6 val := by_e2 20 0 h (fun h => lcG s_fits6 h [(.c 0)] (by kernel_rfl) (fun _ _ _ => by kernel_rfl))
 (fun h => lcG s_fits6 h [(.c 0)] (by kernel_rfl) (fun _ _ _ => by kernel_rfl))


theorem fits5a (val : Nat → Int) (h : Holds val [.is (.a 11) 5, .ne (.a 28) 0, .ge (.a 13) 0]) : Fits5 val := by_e2 20 0 h (fun h => lcG s_fits5 h [(.c 0)] (by kernel_rfl) (fun _ _ _ => by kernel_rfl))
 (fun h => lcG s_fits5 h [(.c 0)] (by kernel_rfl) (fun _ _ _ => by kernel_rfl))


theorem fits4a (val : Nat → Int) (h : Holds val [.is (.a 11) 4, .ne (.a 28) 0, .ge (.a 13) 0]) : Fits4 val := by_e2 20 0 h (fun h => lcG s_fits4 h [(.c 0)] (by kernel_rfl) (fun _ _ _ => by kernel_rfl))
 (fun h => lcG s_fits4 h [(.c 0)] (by kernel_rfl) (fun _ _ _ => by kernel_rfl))


theorem fits2a (val : Nat → Int) (h : Holds val [.is (.a 11) 2, .ne (.a 28) 0, .ge (.a 13) 0]) : Fits2 val := by_e2 20 0 h (fun h => lcG s_fits2 h [(.c 0)] (by kernel_rfl) (fun _ _ _ => by kernel_rfl))
 (fun h => lcG s_fits2 h [(.c 0)] (by kernel_rfl) (fun _ _ _ => by kernel_rfl))


theorem fits1a (val : Nat → Int) (h : Holds val [.is (.a 11) 1, .ne (.a 28) 0, .ge (.a 13) 0]) : Fits1 val := by_e2 20 0 h (fun h => lcG s_fits1 h [(.c 0)] (by kernel_rfl) (fun _ _ _ => by kernel_rfl))
 (fun h => lcG s_fits1 h [(.c 0)] (by kernel_rfl) (fun _ _ _ => by kernel_rfl))


theorem fits0a (val : Nat → Int) (h : Holds val [.is (.a 11) 0, .ne (.a 28) 0, .ge (.a 13) 0, .is (.a 38) 0]) : Fits0 val := by_e2 20 0 h (fun h => lcG s_fits0 h [(.c 0)] (by kernel_rfl) (fun _ _ _ => by kernel_rfl))
 (fun h => lcG s_fits0 h [(.c 0)] (by kernel_rfl) (fun _ _ _ => by kernel_rfl))

end Go.Proofs.Ytlggmhchgicjkaa.Tab
