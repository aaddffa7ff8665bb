/-
  Ways through the code, part 3.
-/
import Derived.Test.YtndiilfjeconbaaCanH
namespace Go.Proofs.Ytndiilfjeconbaa.Tab
open Go.Sim
set_option maxRecDepth 100000
set_option linter.unusedSimpArgs false
set_option maxHeartbeats 4000000

theorem canQ0_0 (val : Nat → Int) (h : Holds val [.is (.a 7) 0, .is (.a 1) 0]) : CanQ0_0 val := by_eq 0 16 h (fun h => co0_0 h [[], [], [10], []] (by kernel_rfl) (fun _ _ _ _ => by kernel_rfl))
 (fun h => by_eq 0 10 h (fun h => co0_0 h [[], [], [10], []] (by kernel_rfl) (fun _ _ _ _ => by kernel_rfl))
 (fun h => by_eq 0 11 h (fun h => co0_0 h [[], [], [10], []] (by kernel_rfl) (fun _ _ _ _ => by kernel_rfl))
 (fun h => co0_0 h [[], [], [10], []] (by kernel_rfl) (fun _ _ _ _ => by kernel_rfl))))


theorem canQ1_0 (val : Nat → Int) (h : Holds val [.is (.a 7) 0, .ne (.a 40) 3]) : CanQ1_0 val := by_eq 0 16 h (fun h => co1_0 h 1 (rC 40 70) [[12], [6]] (by kernel_rfl) (fun _ _ => by kernel_rfl))
 (fun h => by_eq 0 10 h (fun h => co1_0 h 1 (rC 40 70) [[12], [6]] (by kernel_rfl) (fun _ _ => by kernel_rfl))
 (fun h => by_eq 0 11 h (fun h => co1_0 h 1 (rC 40 70) [[12], [6]] (by kernel_rfl) (fun _ _ => by kernel_rfl))
 (fun h => co1_0 h 1 (rC 40 70) [[12], [6]] (by kernel_rfl) (fun _ _ => by kernel_rfl))))


theorem canQ2_1 (val : Nat → Int) (h : Holds val [.is (.a 7) 0, .is (.a 40) 3, .ne (.a 80) 3]) : CanQ2_1 val := by_eq 0 16 h (fun h => co2_1 h 2 (rC 40 72 ++ rC 80 110) [[12], [9]] (by kernel_rfl) (fun _ _ => by kernel_rfl))
 (fun h => by_eq 0 10 h (fun h => co2_1 h 2 (rC 40 72 ++ rC 80 110) [[12], [9]] (by kernel_rfl) (fun _ _ => by kernel_rfl))
 (fun h => by_eq 0 11 h (fun h => co2_1 h 2 (rC 40 72 ++ rC 80 110) [[12], [9]] (by kernel_rfl) (fun _ _ => by kernel_rfl))
 (fun h => co2_1 h 2 (rC 40 72 ++ rC 80 110) [[12], [9]] (by kernel_rfl) (fun _ _ => by kernel_rfl))))


theorem canQ3_2 (val : Nat → Int) (h : Holds val [.is (.a 7) 0, .ne (.a 40) 3, .is (.a 80) 3, .ne (.a 120) 3]) : CanQ3_2 val := by_eq 0 16 h (fun h => co3_2 h 3 (rC 40 70 ++ rC 80 112 ++ rC 120 150) [[12], [12]] (by kernel_rfl) (fun _ _ => by kernel_rfl))
 (fun h => by_eq 0 10 h (fun h => co3_2 h 3 (rC 40 70 ++ rC 80 112 ++ rC 120 150) [[12], [12]] (by kernel_rfl) (fun _ _ => by kernel_rfl))
 (fun h => by_eq 0 11 h (fun h => co3_2 h 3 (rC 40 70 ++ rC 80 112 ++ rC 120 150) [[12], [12]] (by kernel_rfl) (fun _ _ => by kernel_rfl))
 (fun h => co3_2 h 3 (rC 40 70 ++ rC 80 112 ++ rC 120 150) [[12], [12]] (by kernel_rfl) (fun _ _ => by kernel_rfl))))


theorem canQ3_6 (val : Nat → Int) (h : Holds val [.is (.a 7) 0, .ne (.a 40) 3, .is (.a 80) 3, .is (.a 120) 3]) : CanQ3_6 val := by_eq 0 16 h (fun h => co3_6 h 3 (rC 40 70 ++ rC 80 112 ++ rC 120 152) [[12], [12]] (by kernel_rfl) (fun _ _ => by kernel_rfl))
 (fun h => by_eq 0 10 h (fun h => co3_6 h 3 (rC 40 70 ++ rC 80 112 ++ rC 120 152) [[12], [12]] (by kernel_rfl) (fun _ _ => by kernel_rfl))
 (fun h => by_eq 0 11 h (fun h => co3_6 h 3 (rC 40 70 ++ rC 80 112 ++ rC 120 152) [[12], [12]] (by kernel_rfl) (fun _ _ => by kernel_rfl))
 (fun h => co3_6 h 3 (rC 40 70 ++ rC 80 112 ++ rC 120 152) [[12], [12]] (by kernel_rfl) (fun _ _ => by kernel_rfl))))


theorem canQ4_2 (val : Nat → Int) (h : Holds val [.is (.a 7) 0, .ne (.a 40) 3, .is (.a 80) 3, .ne (.a 120) 3, .ne (.a 160) 3]) : CanQ4_2 val := by_eq 0 16 h (fun h => co4_2 h 4 (rC 40 70 ++ rC 80 112 ++ rC 120 150 ++ rC 160 190) [[12], [15]] (by kernel_rfl) (fun _ _ => by kernel_rfl))
 (fun h => by_eq 0 10 h (fun h => co4_2 h 4 (rC 40 70 ++ rC 80 112 ++ rC 120 150 ++ rC 160 190) [[12], [15]] (by kernel_rfl) (fun _ _ => by kernel_rfl))
 (fun h => by_eq 0 11 h (fun h => co4_2 h 4 (rC 40 70 ++ rC 80 112 ++ rC 120 150 ++ rC 160 190) [[12], [15]] (by kernel_rfl) (fun _ _ => by kernel_rfl))
 (fun h => co4_2 h 4 (rC 40 70 ++ rC 80 112 ++ rC 120 150 ++ rC 160 190) [[12], [15]] (by kernel_rfl) (fun _ _ => by kernel_rfl))))


theorem canQ4_6 (val : Nat → Int) (h : Holds val [.is (.a 7) 0, .ne (.a 40) 3, .is (.a 80) 3, .is (.a 120) 3, .ne (.a 160) 3]) : CanQ4_6 val := by_eq 0 16 h (fun h => co4_6 h 4 (rC 40 70 ++ rC 80 112 ++ rC 120 152 ++ rC 160 190) [[12], [15]] (by kernel_rfl) (fun _ _ => by kernel_rfl))
 (fun h => by_eq 0 10 h (fun h => co4_6 h 4 (rC 40 70 ++ rC 80 112 ++ rC 120 152 ++ rC 160 190) [[12], [15]] (by kernel_rfl) (fun _ _ => by kernel_rfl))
 (fun h => by_eq 0 11 h (fun h => co4_6 h 4 (rC 40 70 ++ rC 80 112 ++ rC 120 152 ++ rC 160 190) [[12], [15]] (by kernel_rfl) (fun _ _ => by kernel_rfl))
 (fun h => co4_6 h 4 (rC 40 70 ++ rC 80 112 ++ rC 120 152 ++ rC 160 190) [[12], [15]] (by kernel_rfl) (fun _ _ => by kernel_rfl))))


theorem canQ4_10 (val : Nat → Int) (h : Holds val [.is (.a 7) 0, .ne (.a 40) 3, .is (.a 80) 3, .ne (.a 120) 3, .is (.a 160) 3]) : CanQ4_10 val := by_eq 0 16 h (fun h => co4_10 h 4 (rC 40 70 ++ rC 80 112 ++ rC 120 150 ++ rC 160 192) [[12], [15]] (by kernel_rfl) (fun _ _ => by kernel_rfl))
 (fun h => by_eq 0 10 h (fun h => co4_10 h 4 (rC 40 70 ++ rC 80 112 ++ rC 120 150 ++ rC 160 192) [[12], [15]] (by kernel_rfl) (fun _ _ => by kernel_rfl))
 (fun h => by_eq 0 11 h (fun h => co4_10 h 4 (rC 40 70 ++ rC 80 112 ++ rC 120 150 ++ rC 160 192) [[12], [15]] (by kernel_rfl) (fun _ _ => by kernel_rfl))
 (fun h => co4_10 h 4 (rC 40 70 ++ rC 80 112 ++ rC 120 150 ++ rC 160 192) [[12], [15]] (by kernel_rfl) (fun _ _ => by kernel_rfl))))


theorem canQ4_14 (val : Nat → Int) (h : Holds val [.is (.a 7) 0, .ne (.a 40) 3, .is (.a 80) 3, .is (.a 120) 3, .is (.a 160) 3]) : CanQ4_14 val := by_eq 0 16 h (fun h => co4_14 h 4 (rC 40 70 ++ rC 80 112 ++ rC 120 152 ++ rC 160 192) [[12], [15]] (by kernel_rfl) (fun _ _ => by kernel_rfl))
 (fun h => by_eq 0 10 h (fun h => co4_14 h 4 (rC 40 70 ++ rC 80 112 ++ rC 120 152 ++ rC 160 192) [[12], [15]] (by kernel_rfl) (fun _ _ => by kernel_rfl))
 (fun h => by_eq 0 11 h (fun h => co4_14 h 4 (rC 40 70 ++ rC 80 112 ++ rC 120 152 ++ rC 160 192) [[12], [15]] (by kernel_rfl) (fun _ _ => by kernel_rfl))
 (fun h => co4_14 h 4 (rC 40 70 ++ rC 80 112 ++ rC 120 152 ++ rC 160 192) [[12], [15]] (by kernel_rfl) (fun _ _ => by kernel_rfl))))


theorem canEQ4 (val : Nat → Int) (h : Holds val [.ne (.a 7) 0]) : CanEQ4 val := ce4 h (by kernel_rfl) (fun _ _ => by kernel_rfl)


theorem canEQ7 (val : Nat → Int) (h : Holds val [.ne (.a 7) 0]) : CanEQ7 val := ce7 h (by kernel_rfl) (fun _ _ => by kernel_rfl)

end Go.Proofs.Ytndiilfjeconbaa.Tab
