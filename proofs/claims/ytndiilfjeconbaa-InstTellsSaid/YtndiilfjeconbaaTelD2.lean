/-
  Ways through the code, part 2.
-/
import Derived.Test.YtndiilfjeconbaaTelH
namespace Go.Proofs.Ytndiilfjeconbaa.Tab
open Go.Sim
set_option maxRecDepth 100000
set_option linter.unusedSimpArgs false
set_option maxHeartbeats 4000000

theorem tel2_2_1_0 (val : Nat → Int) (h : Holds val [tI 100 1, tI 0 11, .ge (.a 2) 2, .ge (.a 3) 1]) : TelQ 2 2 1 val := by_eq 111 1 h (fun h => by_e2 101 112 h (fun h => by_e2 102 113 h (fun h => lT h fun _ _ _ _ => by kernel_rfl)
 (fun h => lT h fun _ _ _ _ => by kernel_rfl))
 (fun h => lT h fun _ _ _ _ => by kernel_rfl))
 (fun h => lT h fun _ _ _ _ => by kernel_rfl)

theorem tel2_2_1_1 (val : Nat → Int) (h : Holds val [tN 100 1, tI 0 11, .ge (.a 2) 2, .ge (.a 3) 1]) : TelQ 2 2 1 val := lT h fun _ _ _ _ => by kernel_rfl

theorem tel2_2_1_2 (val : Nat → Int) (h : Holds val [tN 0 11, .ge (.a 2) 2, .ge (.a 3) 1]) : TelQ 2 2 1 val := lT h fun _ _ _ _ => by kernel_rfl

theorem tel2_2_1 (val : Nat → Int) (h : Holds val [.ge (.a 2) 2, .ge (.a 3) 1]) : TelQ 2 2 1 val := by_eq 0 11 h (fun h => by_eq 100 1 h (fun h => tel2_2_1_0 val h)
 (fun h => tel2_2_1_1 val h))
 (fun h => tel2_2_1_2 val h)

theorem tel2_2_7_0 (val : Nat → Int) (h : Holds val [tI 100 1, tI 0 11, .ge (.a 2) 2, .ge (.a 3) 7]) : TelQ 2 2 7 val := by_eq 111 1 h (fun h => by_e2 101 112 h (fun h => by_e2 102 113 h (fun h => lT h fun _ _ _ _ => by kernel_rfl)
 (fun h => lT h fun _ _ _ _ => by kernel_rfl))
 (fun h => lT h fun _ _ _ _ => by kernel_rfl))
 (fun h => lT h fun _ _ _ _ => by kernel_rfl)

theorem tel2_2_7_1 (val : Nat → Int) (h : Holds val [tN 100 1, tI 0 11, .ge (.a 2) 2, .ge (.a 3) 7]) : TelQ 2 2 7 val := lT h fun _ _ _ _ => by kernel_rfl

theorem tel2_2_7_2 (val : Nat → Int) (h : Holds val [tN 0 11, .ge (.a 2) 2, .ge (.a 3) 7]) : TelQ 2 2 7 val := lT h fun _ _ _ _ => by kernel_rfl

theorem tel2_2_7 (val : Nat → Int) (h : Holds val [.ge (.a 2) 2, .ge (.a 3) 7]) : TelQ 2 2 7 val := by_eq 0 11 h (fun h => by_eq 100 1 h (fun h => tel2_2_7_0 val h)
 (fun h => tel2_2_7_1 val h))
 (fun h => tel2_2_7_2 val h)

theorem tel2_5_2_0 (val : Nat → Int) (h : Holds val [tI 100 1, tI 0 11, .ge (.a 2) 2, .ge (.a 3) 2]) : TelQ 2 5 2 val := by_eq 111 1 h (fun h => by_e2 101 112 h (fun h => by_e2 102 113 h (fun h => lT h fun _ _ _ _ => by kernel_rfl)
 (fun h => lT h fun _ _ _ _ => by kernel_rfl))
 (fun h => lT h fun _ _ _ _ => by kernel_rfl))
 (fun h => lT h fun _ _ _ _ => by kernel_rfl)

theorem tel2_5_2_1 (val : Nat → Int) (h : Holds val [tN 100 1, tI 0 11, .ge (.a 2) 2, .ge (.a 3) 2]) : TelQ 2 5 2 val := lT h fun _ _ _ _ => by kernel_rfl

theorem tel2_5_2_2 (val : Nat → Int) (h : Holds val [tN 0 11, .ge (.a 2) 2, .ge (.a 3) 2]) : TelQ 2 5 2 val := lT h fun _ _ _ _ => by kernel_rfl

theorem tel2_5_2 (val : Nat → Int) (h : Holds val [.ge (.a 2) 2, .ge (.a 3) 2]) : TelQ 2 5 2 val := by_eq 0 11 h (fun h => by_eq 100 1 h (fun h => tel2_5_2_0 val h)
 (fun h => tel2_5_2_1 val h))
 (fun h => tel2_5_2_2 val h)

theorem tel2_5_8_0 (val : Nat → Int) (h : Holds val [tI 100 1, tI 0 11, .ge (.a 2) 2, .ge (.a 3) 8]) : TelQ 2 5 8 val := by_eq 111 1 h (fun h => by_e2 101 112 h (fun h => by_e2 102 113 h (fun h => lT h fun _ _ _ _ => by kernel_rfl)
 (fun h => lT h fun _ _ _ _ => by kernel_rfl))
 (fun h => lT h fun _ _ _ _ => by kernel_rfl))
 (fun h => lT h fun _ _ _ _ => by kernel_rfl)

theorem tel2_5_8_1 (val : Nat → Int) (h : Holds val [tN 100 1, tI 0 11, .ge (.a 2) 2, .ge (.a 3) 8]) : TelQ 2 5 8 val := lT h fun _ _ _ _ => by kernel_rfl

theorem tel2_5_8_2 (val : Nat → Int) (h : Holds val [tN 0 11, .ge (.a 2) 2, .ge (.a 3) 8]) : TelQ 2 5 8 val := lT h fun _ _ _ _ => by kernel_rfl

theorem tel2_5_8 (val : Nat → Int) (h : Holds val [.ge (.a 2) 2, .ge (.a 3) 8]) : TelQ 2 5 8 val := by_eq 0 11 h (fun h => by_eq 100 1 h (fun h => tel2_5_8_0 val h)
 (fun h => tel2_5_8_1 val h))
 (fun h => tel2_5_8_2 val h)


theorem tel0_7_7 (val : Nat → Int) (h : Holds val [.ge (.a 3) 7]) : TelQ 0 7 7 val := by_eq 0 11 h (fun h => lT h fun _ _ _ _ => by kernel_rfl)
 (fun h => lT h fun _ _ _ _ => by kernel_rfl)


theorem tel10_7_2 (val : Nat → Int) (h : Holds val [.is (.a 2) 0, .ge (.a 3) 2]) : TelQ 10 7 2 val := by_eq 0 11 h (fun h => lT h fun _ _ _ _ => by kernel_rfl)
 (fun h => lT h fun _ _ _ _ => by kernel_rfl)


theorem tel10_7_8 (val : Nat → Int) (h : Holds val [.is (.a 2) 0, .ge (.a 3) 8]) : TelQ 10 7 8 val := by_eq 0 11 h (fun h => lT h fun _ _ _ _ => by kernel_rfl)
 (fun h => lT h fun _ _ _ _ => by kernel_rfl)


theorem tel1_1_3 (val : Nat → Int) (h : Holds val [.ge (.a 2) 1, .ge (.a 3) 3]) : TelQ 1 1 3 val := by_eq 0 11 h (fun h => lT h fun _ _ _ _ => by kernel_rfl)
 (fun h => lT h fun _ _ _ _ => by kernel_rfl)


theorem tel1_1_9 (val : Nat → Int) (h : Holds val [.ge (.a 2) 1, .ge (.a 3) 9]) : TelQ 1 1 9 val := by_eq 0 11 h (fun h => lT h fun _ _ _ _ => by kernel_rfl)
 (fun h => lT h fun _ _ _ _ => by kernel_rfl)


theorem tel2_6_4 (val : Nat → Int) (h : Holds val [.ge (.a 2) 2, .ge (.a 3) 4]) : TelQ 2 6 4 val := by_eq 0 11 h (fun h => lT h fun _ _ _ _ => by kernel_rfl)
 (fun h => lT h fun _ _ _ _ => by kernel_rfl)


theorem tel3_3_0 (val : Nat → Int) (h : Holds val [.ge (.a 2) 3]) : TelQ 3 3 0 val := by_eq 0 11 h (fun h => lT h fun _ _ _ _ => by kernel_rfl)
 (fun h => lT h fun _ _ _ _ => by kernel_rfl)


theorem tel3_3_5 (val : Nat → Int) (h : Holds val [.ge (.a 2) 3, .ge (.a 3) 5]) : TelQ 3 3 5 val := by_eq 0 11 h (fun h => lT h fun _ _ _ _ => by kernel_rfl)
 (fun h => lT h fun _ _ _ _ => by kernel_rfl)


theorem tel4_4_10 (val : Nat → Int) (h : Holds val [.ge (.a 2) 4, .is (.a 3) 0]) : TelQ 4 4 10 val := by_eq 0 11 h (fun h => lT h fun _ _ _ _ => by kernel_rfl)
 (fun h => lT h fun _ _ _ _ => by kernel_rfl)


theorem tel4_4_6 (val : Nat → Int) (h : Holds val [.ge (.a 2) 4, .ge (.a 3) 6]) : TelQ 4 4 6 val := by_eq 0 11 h (fun h => lT h fun _ _ _ _ => by kernel_rfl)
 (fun h => lT h fun _ _ _ _ => by kernel_rfl)


theorem tel0_0_1 (val : Nat → Int) (h : Holds val [.ge (.a 3) 1, .ne (.a 7) 0]) : TelQ 0 0 1 val := lT h fun _ _ _ _ => by kernel_rfl


theorem tel0_0_7 (val : Nat → Int) (h : Holds val [.ge (.a 3) 7, .ne (.a 7) 0]) : TelQ 0 0 7 val := lT h fun _ _ _ _ => by kernel_rfl


theorem tel10_0_2 (val : Nat → Int) (h : Holds val [.is (.a 2) 0, .ge (.a 3) 2, .ne (.a 7) 0]) : TelQ 10 0 2 val := lT h fun _ _ _ _ => by kernel_rfl


theorem tel10_0_8 (val : Nat → Int) (h : Holds val [.is (.a 2) 0, .ge (.a 3) 8, .ne (.a 7) 0]) : TelQ 10 0 8 val := lT h fun _ _ _ _ => by kernel_rfl


theorem tel1_0_3 (val : Nat → Int) (h : Holds val [.ge (.a 2) 1, .ge (.a 3) 3, .ne (.a 7) 0]) : TelQ 1 0 3 val := lT h fun _ _ _ _ => by kernel_rfl


theorem tel1_0_9 (val : Nat → Int) (h : Holds val [.ge (.a 2) 1, .ge (.a 3) 9, .ne (.a 7) 0]) : TelQ 1 0 9 val := lT h fun _ _ _ _ => by kernel_rfl


theorem tel2_0_4 (val : Nat → Int) (h : Holds val [.ge (.a 2) 2, .ge (.a 3) 4, .ne (.a 7) 0]) : TelQ 2 0 4 val := lT h fun _ _ _ _ => by kernel_rfl


theorem tel3_0_0 (val : Nat → Int) (h : Holds val [.ge (.a 2) 3, .ne (.a 7) 0]) : TelQ 3 0 0 val := lT h fun _ _ _ _ => by kernel_rfl


theorem tel3_0_5 (val : Nat → Int) (h : Holds val [.ge (.a 2) 3, .ge (.a 3) 5, .ne (.a 7) 0]) : TelQ 3 0 5 val := lT h fun _ _ _ _ => by kernel_rfl


theorem tel4_0_10 (val : Nat → Int) (h : Holds val [.ge (.a 2) 4, .is (.a 3) 0, .ne (.a 7) 0]) : TelQ 4 0 10 val := lT h fun _ _ _ _ => by kernel_rfl


theorem tel4_0_6 (val : Nat → Int) (h : Holds val [.ge (.a 2) 4, .ge (.a 3) 6, .ne (.a 7) 0]) : TelQ 4 0 6 val := lT h fun _ _ _ _ => by kernel_rfl


theorem tel5_0_1 (val : Nat → Int) (h : Holds val [.ge (.a 2) 5, .ge (.a 3) 1, .ne (.a 7) 0]) : TelQ 5 0 1 val := lT h fun _ _ _ _ => by kernel_rfl


theorem tel5_0_7 (val : Nat → Int) (h : Holds val [.ge (.a 2) 5, .ge (.a 3) 7, .ne (.a 7) 0]) : TelQ 5 0 7 val := lT h fun _ _ _ _ => by kernel_rfl


theorem tel6_0_2 (val : Nat → Int) (h : Holds val [.ge (.a 2) 6, .ge (.a 3) 2, .ne (.a 7) 0]) : TelQ 6 0 2 val := lT h fun _ _ _ _ => by kernel_rfl


theorem tel6_0_8 (val : Nat → Int) (h : Holds val [.ge (.a 2) 6, .ge (.a 3) 8, .ne (.a 7) 0]) : TelQ 6 0 8 val := lT h fun _ _ _ _ => by kernel_rfl


theorem tel7_0_3 (val : Nat → Int) (h : Holds val [.ge (.a 2) 7, .ge (.a 3) 3, .ne (.a 7) 0]) : TelQ 7 0 3 val := lT h fun _ _ _ _ => by kernel_rfl


theorem tel7_0_9 (val : Nat → Int) (h : Holds val [.ge (.a 2) 7, .ge (.a 3) 9, .ne (.a 7) 0]) : TelQ 7 0 9 val := lT h fun _ _ _ _ => by kernel_rfl


theorem tel8_0_4 (val : Nat → Int) (h : Holds val [.ge (.a 2) 8, .ge (.a 3) 4, .ne (.a 7) 0]) : TelQ 8 0 4 val := lT h fun _ _ _ _ => by kernel_rfl


theorem tel9_0_0 (val : Nat → Int) (h : Holds val [.ge (.a 2) 9, .ne (.a 7) 0]) : TelQ 9 0 0 val := lT h fun _ _ _ _ => by kernel_rfl


theorem tel9_0_5 (val : Nat → Int) (h : Holds val [.ge (.a 2) 9, .ge (.a 3) 5, .ne (.a 7) 0]) : TelQ 9 0 5 val := lT h fun _ _ _ _ => by kernel_rfl

end Go.Proofs.Ytndiilfjeconbaa.Tab
