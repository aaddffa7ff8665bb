/-
  Ways through the code, part 2.
-/
import Derived.Test.YtndiilfjeconbaaCanH
namespace Go.Proofs.Ytndiilfjeconbaa.Tab
open Go.Sim
set_option maxRecDepth 100000
set_option linter.unusedSimpArgs false
set_option maxHeartbeats 4000000

theorem canQ2_2 (val : Nat → Int) (h : Holds val [.is (.a 7) 0, .ne (.a 40) 3, .is (.a 80) 3]) : CanQ2_2 val := by_eq 0 16 h (fun h => by_eq 40 1 h (fun h => co2_2 h 6 (rC 40 70 ++ rC 40 70 ++ rC 80 112) [[36], [23]] (by kernel_rfl) (fun _ _ => by kernel_rfl))
 (fun h => co2_2 h 2 (rC 40 70 ++ rC 80 112) [[12], [9]] (by kernel_rfl) (fun _ _ => by kernel_rfl)))
 (fun h => by_eq 0 10 h (fun h => by_eq 40 1 h (fun h => co2_2 h 2 (rC 40 70 ++ rC 80 112) [[12], [9]] (by kernel_rfl) (fun _ _ => by kernel_rfl))
 (fun h => co2_2 h 2 (rC 40 70 ++ rC 80 112) [[12], [9]] (by kernel_rfl) (fun _ _ => by kernel_rfl)))
 (fun h => by_eq 0 11 h (fun h => by_eq 40 1 h (fun h => co2_2 h 2 (rC 40 70 ++ rC 80 112) [[12], [9]] (by kernel_rfl) (fun _ _ => by kernel_rfl))
 (fun h => co2_2 h 2 (rC 40 70 ++ rC 80 112) [[12], [9]] (by kernel_rfl) (fun _ _ => by kernel_rfl)))
 (fun h => co2_2 h 2 (rC 40 70 ++ rC 80 112) [[12], [9]] (by kernel_rfl) (fun _ _ => by kernel_rfl))))


theorem canQ1_1 (val : Nat → Int) (h : Holds val [.is (.a 7) 0, .is (.a 40) 3]) : CanQ1_1 val := by_eq 0 16 h (fun h => co1_1 h 1 (rC 40 72) [[12], [6]] (by kernel_rfl) (fun _ _ => by kernel_rfl))
 (fun h => by_eq 0 10 h (fun h => co1_1 h 1 (rC 40 72) [[12], [6]] (by kernel_rfl) (fun _ _ => by kernel_rfl))
 (fun h => by_eq 0 11 h (fun h => co1_1 h 1 (rC 40 72) [[12], [6]] (by kernel_rfl) (fun _ _ => by kernel_rfl))
 (fun h => co1_1 h 1 (rC 40 72) [[12], [6]] (by kernel_rfl) (fun _ _ => by kernel_rfl))))


theorem canQ3_1 (val : Nat → Int) (h : Holds val [.is (.a 7) 0, .is (.a 40) 3, .ne (.a 80) 3, .ne (.a 120) 3]) : CanQ3_1 val := by_eq 0 16 h (fun h => co3_1 h 3 (rC 40 72 ++ rC 80 110 ++ rC 120 150) [[12], [12]] (by kernel_rfl) (fun _ _ => by kernel_rfl))
 (fun h => by_eq 0 10 h (fun h => co3_1 h 3 (rC 40 72 ++ rC 80 110 ++ rC 120 150) [[12], [12]] (by kernel_rfl) (fun _ _ => by kernel_rfl))
 (fun h => by_eq 0 11 h (fun h => co3_1 h 3 (rC 40 72 ++ rC 80 110 ++ rC 120 150) [[12], [12]] (by kernel_rfl) (fun _ _ => by kernel_rfl))
 (fun h => co3_1 h 3 (rC 40 72 ++ rC 80 110 ++ rC 120 150) [[12], [12]] (by kernel_rfl) (fun _ _ => by kernel_rfl))))


theorem canQ3_5 (val : Nat → Int) (h : Holds val [.is (.a 7) 0, .is (.a 40) 3, .ne (.a 80) 3, .is (.a 120) 3]) : CanQ3_5 val := by_eq 0 16 h (fun h => co3_5 h 3 (rC 40 72 ++ rC 80 110 ++ rC 120 152) [[12], [12]] (by kernel_rfl) (fun _ _ => by kernel_rfl))
 (fun h => by_eq 0 10 h (fun h => co3_5 h 3 (rC 40 72 ++ rC 80 110 ++ rC 120 152) [[12], [12]] (by kernel_rfl) (fun _ _ => by kernel_rfl))
 (fun h => by_eq 0 11 h (fun h => co3_5 h 3 (rC 40 72 ++ rC 80 110 ++ rC 120 152) [[12], [12]] (by kernel_rfl) (fun _ _ => by kernel_rfl))
 (fun h => co3_5 h 3 (rC 40 72 ++ rC 80 110 ++ rC 120 152) [[12], [12]] (by kernel_rfl) (fun _ _ => by kernel_rfl))))


theorem canQ4_1 (val : Nat → Int) (h : Holds val [.is (.a 7) 0, .is (.a 40) 3, .ne (.a 80) 3, .ne (.a 120) 3, .ne (.a 160) 3]) : CanQ4_1 val := by_eq 0 16 h (fun h => co4_1 h 4 (rC 40 72 ++ rC 80 110 ++ rC 120 150 ++ rC 160 190) [[12], [15]] (by kernel_rfl) (fun _ _ => by kernel_rfl))
 (fun h => by_eq 0 10 h (fun h => co4_1 h 4 (rC 40 72 ++ rC 80 110 ++ rC 120 150 ++ rC 160 190) [[12], [15]] (by kernel_rfl) (fun _ _ => by kernel_rfl))
 (fun h => by_eq 0 11 h (fun h => co4_1 h 4 (rC 40 72 ++ rC 80 110 ++ rC 120 150 ++ rC 160 190) [[12], [15]] (by kernel_rfl) (fun _ _ => by kernel_rfl))
 (fun h => co4_1 h 4 (rC 40 72 ++ rC 80 110 ++ rC 120 150 ++ rC 160 190) [[12], [15]] (by kernel_rfl) (fun _ _ => by kernel_rfl))))


theorem canQ4_5 (val : Nat → Int) (h : Holds val [.is (.a 7) 0, .is (.a 40) 3, .ne (.a 80) 3, .is (.a 120) 3, .ne (.a 160) 3]) : CanQ4_5 val := by_eq 0 16 h (fun h => co4_5 h 4 (rC 40 72 ++ rC 80 110 ++ rC 120 152 ++ rC 160 190) [[12], [15]] (by kernel_rfl) (fun _ _ => by kernel_rfl))
 (fun h => by_eq 0 10 h (fun h => co4_5 h 4 (rC 40 72 ++ rC 80 110 ++ rC 120 152 ++ rC 160 190) [[12], [15]] (by kernel_rfl) (fun _ _ => by kernel_rfl))
 (fun h => by_eq 0 11 h (fun h => co4_5 h 4 (rC 40 72 ++ rC 80 110 ++ rC 120 152 ++ rC 160 190) [[12], [15]] (by kernel_rfl) (fun _ _ => by kernel_rfl))
 (fun h => co4_5 h 4 (rC 40 72 ++ rC 80 110 ++ rC 120 152 ++ rC 160 190) [[12], [15]] (by kernel_rfl) (fun _ _ => by kernel_rfl))))


theorem canQ4_9 (val : Nat → Int) (h : Holds val [.is (.a 7) 0, .is (.a 40) 3, .ne (.a 80) 3, .ne (.a 120) 3, .is (.a 160) 3]) : CanQ4_9 val := by_eq 0 16 h (fun h => co4_9 h 4 (rC 40 72 ++ rC 80 110 ++ rC 120 150 ++ rC 160 192) [[12], [15]] (by kernel_rfl) (fun _ _ => by kernel_rfl))
 (fun h => by_eq 0 10 h (fun h => co4_9 h 4 (rC 40 72 ++ rC 80 110 ++ rC 120 150 ++ rC 160 192) [[12], [15]] (by kernel_rfl) (fun _ _ => by kernel_rfl))
 (fun h => by_eq 0 11 h (fun h => co4_9 h 4 (rC 40 72 ++ rC 80 110 ++ rC 120 150 ++ rC 160 192) [[12], [15]] (by kernel_rfl) (fun _ _ => by kernel_rfl))
 (fun h => co4_9 h 4 (rC 40 72 ++ rC 80 110 ++ rC 120 150 ++ rC 160 192) [[12], [15]] (by kernel_rfl) (fun _ _ => by kernel_rfl))))


theorem canQ4_13 (val : Nat → Int) (h : Holds val [.is (.a 7) 0, .is (.a 40) 3, .ne (.a 80) 3, .is (.a 120) 3, .is (.a 160) 3]) : CanQ4_13 val := by_eq 0 16 h (fun h => co4_13 h 4 (rC 40 72 ++ rC 80 110 ++ rC 120 152 ++ rC 160 192) [[12], [15]] (by kernel_rfl) (fun _ _ => by kernel_rfl))
 (fun h => by_eq 0 10 h (fun h => co4_13 h 4 (rC 40 72 ++ rC 80 110 ++ rC 120 152 ++ rC 160 192) [[12], [15]] (by kernel_rfl) (fun _ _ => by kernel_rfl))
 (fun h => by_eq 0 11 h (fun h => co4_13 h 4 (rC 40 72 ++ rC 80 110 ++ rC 120 152 ++ rC 160 192) [[12], [15]] (by kernel_rfl) (fun _ _ => by kernel_rfl))
 (fun h => co4_13 h 4 (rC 40 72 ++ rC 80 110 ++ rC 120 152 ++ rC 160 192) [[12], [15]] (by kernel_rfl) (fun _ _ => by kernel_rfl))))


theorem canEQ1 (val : Nat → Int) (h : Holds val [.ne (.a 7) 0]) : CanEQ1 val := ce1 h (by kernel_rfl) (fun _ _ => by kernel_rfl)


theorem canEQ3 (val : Nat → Int) (h : Holds val [.ne (.a 7) 0]) : CanEQ3 val := ce3 h (by kernel_rfl) (fun _ _ => by kernel_rfl)


theorem canEQ6 (val : Nat → Int) (h : Holds val [.ne (.a 7) 0]) : CanEQ6 val := ce6 h (by kernel_rfl) (fun _ _ => by kernel_rfl)


theorem canEQ9 (val : Nat → Int) (h : Holds val [.ne (.a 7) 0]) : CanEQ9 val := ce9 h (by kernel_rfl) (fun _ _ => by kernel_rfl)

end Go.Proofs.Ytndiilfjeconbaa.Tab
