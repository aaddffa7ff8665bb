/-
  Ways through the code, part 3.
-/
import Derived.Test.YtndiilfjeconbaaTelH
namespace Go.Proofs.Ytndiilfjeconbaa.Tab
open Go.Sim
set_option maxRecDepth 100000
set_option linter.unusedSimpArgs false
set_option maxHeartbeats 4000000

theorem tel2_2_2_0 (val : Nat → Int) (h : Holds val [tI 100 1, tI 0 11, .ge (.a 2) 2, .ge (.a 3) 2]) : TelQ 2 2 2 val := by_eq 111 1 h (fun h => by_e2 101 112 h (fun h => by_e2 102 113 h (fun h => lT h fun _ _ _ _ => by kernel_rfl)
 (fun h => lT h fun _ _ _ _ => by kernel_rfl))
 (fun h => lT h fun _ _ _ _ => by kernel_rfl))
 (fun h => lT h fun _ _ _ _ => by kernel_rfl)

theorem tel2_2_2_1 (val : Nat → Int) (h : Holds val [tN 100 1, tI 0 11, .ge (.a 2) 2, .ge (.a 3) 2]) : TelQ 2 2 2 val := lT h fun _ _ _ _ => by kernel_rfl

theorem tel2_2_2_2 (val : Nat → Int) (h : Holds val [tN 0 11, .ge (.a 2) 2, .ge (.a 3) 2]) : TelQ 2 2 2 val := lT h fun _ _ _ _ => by kernel_rfl

theorem tel2_2_2 (val : Nat → Int) (h : Holds val [.ge (.a 2) 2, .ge (.a 3) 2]) : TelQ 2 2 2 val := by_eq 0 11 h (fun h => by_eq 100 1 h (fun h => tel2_2_2_0 val h)
 (fun h => tel2_2_2_1 val h))
 (fun h => tel2_2_2_2 val h)

theorem tel2_2_8_0 (val : Nat → Int) (h : Holds val [tI 100 1, tI 0 11, .ge (.a 2) 2, .ge (.a 3) 8]) : TelQ 2 2 8 val := by_eq 111 1 h (fun h => by_e2 101 112 h (fun h => by_e2 102 113 h (fun h => lT h fun _ _ _ _ => by kernel_rfl)
 (fun h => lT h fun _ _ _ _ => by kernel_rfl))
 (fun h => lT h fun _ _ _ _ => by kernel_rfl))
 (fun h => lT h fun _ _ _ _ => by kernel_rfl)

theorem tel2_2_8_1 (val : Nat → Int) (h : Holds val [tN 100 1, tI 0 11, .ge (.a 2) 2, .ge (.a 3) 8]) : TelQ 2 2 8 val := lT h fun _ _ _ _ => by kernel_rfl

theorem tel2_2_8_2 (val : Nat → Int) (h : Holds val [tN 0 11, .ge (.a 2) 2, .ge (.a 3) 8]) : TelQ 2 2 8 val := lT h fun _ _ _ _ => by kernel_rfl

theorem tel2_2_8 (val : Nat → Int) (h : Holds val [.ge (.a 2) 2, .ge (.a 3) 8]) : TelQ 2 2 8 val := by_eq 0 11 h (fun h => by_eq 100 1 h (fun h => tel2_2_8_0 val h)
 (fun h => tel2_2_8_1 val h))
 (fun h => tel2_2_8_2 val h)

theorem tel2_5_3_0 (val : Nat → Int) (h : Holds val [tI 100 1, tI 0 11, .ge (.a 2) 2, .ge (.a 3) 3]) : TelQ 2 5 3 val := by_eq 111 1 h (fun h => by_e2 101 112 h (fun h => by_e2 102 113 h (fun h => lT h fun _ _ _ _ => by kernel_rfl)
 (fun h => lT h fun _ _ _ _ => by kernel_rfl))
 (fun h => lT h fun _ _ _ _ => by kernel_rfl))
 (fun h => lT h fun _ _ _ _ => by kernel_rfl)

theorem tel2_5_3_1 (val : Nat → Int) (h : Holds val [tN 100 1, tI 0 11, .ge (.a 2) 2, .ge (.a 3) 3]) : TelQ 2 5 3 val := lT h fun _ _ _ _ => by kernel_rfl

theorem tel2_5_3_2 (val : Nat → Int) (h : Holds val [tN 0 11, .ge (.a 2) 2, .ge (.a 3) 3]) : TelQ 2 5 3 val := lT h fun _ _ _ _ => by kernel_rfl

theorem tel2_5_3 (val : Nat → Int) (h : Holds val [.ge (.a 2) 2, .ge (.a 3) 3]) : TelQ 2 5 3 val := by_eq 0 11 h (fun h => by_eq 100 1 h (fun h => tel2_5_3_0 val h)
 (fun h => tel2_5_3_1 val h))
 (fun h => tel2_5_3_2 val h)

theorem tel2_5_9_0 (val : Nat → Int) (h : Holds val [tI 100 1, tI 0 11, .ge (.a 2) 2, .ge (.a 3) 9]) : TelQ 2 5 9 val := by_eq 111 1 h (fun h => by_e2 101 112 h (fun h => by_e2 102 113 h (fun h => lT h fun _ _ _ _ => by kernel_rfl)
 (fun h => lT h fun _ _ _ _ => by kernel_rfl))
 (fun h => lT h fun _ _ _ _ => by kernel_rfl))
 (fun h => lT h fun _ _ _ _ => by kernel_rfl)

theorem tel2_5_9_1 (val : Nat → Int) (h : Holds val [tN 100 1, tI 0 11, .ge (.a 2) 2, .ge (.a 3) 9]) : TelQ 2 5 9 val := lT h fun _ _ _ _ => by kernel_rfl

theorem tel2_5_9_2 (val : Nat → Int) (h : Holds val [tN 0 11, .ge (.a 2) 2, .ge (.a 3) 9]) : TelQ 2 5 9 val := lT h fun _ _ _ _ => by kernel_rfl

theorem tel2_5_9 (val : Nat → Int) (h : Holds val [.ge (.a 2) 2, .ge (.a 3) 9]) : TelQ 2 5 9 val := by_eq 0 11 h (fun h => by_eq 100 1 h (fun h => tel2_5_9_0 val h)
 (fun h => tel2_5_9_1 val h))
 (fun h => tel2_5_9_2 val h)


theorem tel0_7_8 (val : Nat → Int) (h : Holds val [.ge (.a 3) 8]) : TelQ 0 7 8 val := by_eq 0 11 h (fun h => lT h fun _ _ _ _ => by kernel_rfl)
 (fun h => lT h fun _ _ _ _ => by kernel_rfl)


theorem tel10_7_3 (val : Nat → Int) (h : Holds val [.is (.a 2) 0, .ge (.a 3) 3]) : TelQ 10 7 3 val := by_eq 0 11 h (fun h => lT h fun _ _ _ _ => by kernel_rfl)
 (fun h => lT h fun _ _ _ _ => by kernel_rfl)


theorem tel10_7_9 (val : Nat → Int) (h : Holds val [.is (.a 2) 0, .ge (.a 3) 9]) : TelQ 10 7 9 val := by_eq 0 11 h (fun h => lT h fun _ _ _ _ => by kernel_rfl)
 (fun h => lT h fun _ _ _ _ => by kernel_rfl)


theorem tel1_1_4 (val : Nat → Int) (h : Holds val [.ge (.a 2) 1, .ge (.a 3) 4]) : TelQ 1 1 4 val := by_eq 0 11 h (fun h => lT h fun _ _ _ _ => by kernel_rfl)
 (fun h => lT h fun _ _ _ _ => by kernel_rfl)


theorem tel2_6_0 (val : Nat → Int) (h : Holds val [.ge (.a 2) 2]) : TelQ 2 6 0 val := by_eq 0 11 h (fun h => lT h fun _ _ _ _ => by kernel_rfl)
 (fun h => lT h fun _ _ _ _ => by kernel_rfl)


theorem tel2_6_5 (val : Nat → Int) (h : Holds val [.ge (.a 2) 2, .ge (.a 3) 5]) : TelQ 2 6 5 val := by_eq 0 11 h (fun h => lT h fun _ _ _ _ => by kernel_rfl)
 (fun h => lT h fun _ _ _ _ => by kernel_rfl)


theorem tel3_3_10 (val : Nat → Int) (h : Holds val [.ge (.a 2) 3, .is (.a 3) 0]) : TelQ 3 3 10 val := by_eq 0 11 h (fun h => lT h fun _ _ _ _ => by kernel_rfl)
 (fun h => lT h fun _ _ _ _ => by kernel_rfl)


theorem tel3_3_6 (val : Nat → Int) (h : Holds val [.ge (.a 2) 3, .ge (.a 3) 6]) : TelQ 3 3 6 val := by_eq 0 11 h (fun h => lT h fun _ _ _ _ => by kernel_rfl)
 (fun h => lT h fun _ _ _ _ => by kernel_rfl)


theorem tel4_4_1 (val : Nat → Int) (h : Holds val [.ge (.a 2) 4, .ge (.a 3) 1]) : TelQ 4 4 1 val := by_eq 0 11 h (fun h => lT h fun _ _ _ _ => by kernel_rfl)
 (fun h => lT h fun _ _ _ _ => by kernel_rfl)


theorem tel4_4_7 (val : Nat → Int) (h : Holds val [.ge (.a 2) 4, .ge (.a 3) 7]) : TelQ 4 4 7 val := by_eq 0 11 h (fun h => lT h fun _ _ _ _ => by kernel_rfl)
 (fun h => lT h fun _ _ _ _ => by kernel_rfl)


theorem tel0_0_2 (val : Nat → Int) (h : Holds val [.ge (.a 3) 2, .ne (.a 7) 0]) : TelQ 0 0 2 val := lT h fun _ _ _ _ => by kernel_rfl


theorem tel0_0_8 (val : Nat → Int) (h : Holds val [.ge (.a 3) 8, .ne (.a 7) 0]) : TelQ 0 0 8 val := lT h fun _ _ _ _ => by kernel_rfl


theorem tel10_0_3 (val : Nat → Int) (h : Holds val [.is (.a 2) 0, .ge (.a 3) 3, .ne (.a 7) 0]) : TelQ 10 0 3 val := lT h fun _ _ _ _ => by kernel_rfl


theorem tel10_0_9 (val : Nat → Int) (h : Holds val [.is (.a 2) 0, .ge (.a 3) 9, .ne (.a 7) 0]) : TelQ 10 0 9 val := lT h fun _ _ _ _ => by kernel_rfl


theorem tel1_0_4 (val : Nat → Int) (h : Holds val [.ge (.a 2) 1, .ge (.a 3) 4, .ne (.a 7) 0]) : TelQ 1 0 4 val := lT h fun _ _ _ _ => by kernel_rfl


theorem tel2_0_0 (val : Nat → Int) (h : Holds val [.ge (.a 2) 2, .ne (.a 7) 0]) : TelQ 2 0 0 val := lT h fun _ _ _ _ => by kernel_rfl


theorem tel2_0_5 (val : Nat → Int) (h : Holds val [.ge (.a 2) 2, .ge (.a 3) 5, .ne (.a 7) 0]) : TelQ 2 0 5 val := lT h fun _ _ _ _ => by kernel_rfl


theorem tel3_0_10 (val : Nat → Int) (h : Holds val [.ge (.a 2) 3, .is (.a 3) 0, .ne (.a 7) 0]) : TelQ 3 0 10 val := lT h fun _ _ _ _ => by kernel_rfl


theorem tel3_0_6 (val : Nat → Int) (h : Holds val [.ge (.a 2) 3, .ge (.a 3) 6, .ne (.a 7) 0]) : TelQ 3 0 6 val := lT h fun _ _ _ _ => by kernel_rfl


theorem tel4_0_1 (val : Nat → Int) (h : Holds val [.ge (.a 2) 4, .ge (.a 3) 1, .ne (.a 7) 0]) : TelQ 4 0 1 val := lT h fun _ _ _ _ => by kernel_rfl


theorem tel4_0_7 (val : Nat → Int) (h : Holds val [.ge (.a 2) 4, .ge (.a 3) 7, .ne (.a 7) 0]) : TelQ 4 0 7 val := lT h fun _ _ _ _ => by kernel_rfl


theorem tel5_0_2 (val : Nat → Int) (h : Holds val [.ge (.a 2) 5, .ge (.a 3) 2, .ne (.a 7) 0]) : TelQ 5 0 2 val := lT h fun _ _ _ _ => by kernel_rfl


theorem tel5_0_8 (val : Nat → Int) (h : Holds val [.ge (.a 2) 5, .ge (.a 3) 8, .ne (.a 7) 0]) : TelQ 5 0 8 val := lT h fun _ _ _ _ => by kernel_rfl


theorem tel6_0_3 (val : Nat → Int) (h : Holds val [.ge (.a 2) 6, .ge (.a 3) 3, .ne (.a 7) 0]) : TelQ 6 0 3 val := lT h fun _ _ _ _ => by kernel_rfl


theorem tel6_0_9 (val : Nat → Int) (h : Holds val [.ge (.a 2) 6, .ge (.a 3) 9, .ne (.a 7) 0]) : TelQ 6 0 9 val := lT h fun _ _ _ _ => by kernel_rfl


theorem tel7_0_4 (val : Nat → Int) (h : Holds val [.ge (.a 2) 7, .ge (.a 3) 4, .ne (.a 7) 0]) : TelQ 7 0 4 val := lT h fun _ _ _ _ => by kernel_rfl


theorem tel8_0_0 (val : Nat → Int) (h : Holds val [.ge (.a 2) 8, .ne (.a 7) 0]) : TelQ 8 0 0 val := lT h fun _ _ _ _ => by kernel_rfl


theorem tel8_0_5 (val : Nat → Int) (h : Holds val [.ge (.a 2) 8, .ge (.a 3) 5, .ne (.a 7) 0]) : TelQ 8 0 5 val := lT h fun _ _ _ _ => by kernel_rfl


theorem tel9_0_10 (val : Nat → Int) (h : Holds val [.ge (.a 2) 9, .is (.a 3) 0, .ne (.a 7) 0]) : TelQ 9 0 10 val := lT h fun _ _ _ _ => by kernel_rfl


theorem tel9_0_6 (val : Nat → Int) (h : Holds val [.ge (.a 2) 9, .ge (.a 3) 6, .ne (.a 7) 0]) : TelQ 9 0 6 val := lT h fun _ _ _ _ => by kernel_rfl

end Go.Proofs.Ytndiilfjeconbaa.Tab
