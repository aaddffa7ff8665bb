/-
  Ways through the code, part 1.
-/
import Derived.Test.YtndiilfjeconbaaCanH
namespace Go.Proofs.Ytndiilfjeconbaa.Tab
open Go.Sim
set_option maxRecDepth 100000
set_option linter.unusedSimpArgs false
set_option maxHeartbeats 4000000

theorem canQ2_0b_0 (val : Nat → Int) (h : Holds val [tI 0 16, tI 7 0, .at (.lt (.a 102) (.a 62)) false, .at (.le (.a 62) (.a 102)) true, tN 40 3, tN 80 3]) : CanQ2_0 val := by_eq 40 1 h (fun h => co2_0 h 2 (rC 40 70 ++ rC 80 110) [[12], [9]] (by kernel_rfl) (fun _ _ => by kernel_rfl))
 (fun h => co2_0 h 2 (rC 40 70 ++ rC 80 110) [[12], [9]] (by kernel_rfl) (fun _ _ => by kernel_rfl))

theorem canQ2_0b_1 (val : Nat → Int) (h : Holds val [tI 0 10, tN 0 16, tI 7 0, .at (.lt (.a 102) (.a 62)) false, .at (.le (.a 62) (.a 102)) true, tN 40 3, tN 80 3]) : CanQ2_0 val := by_eq 40 1 h (fun h => by_eq 80 2 h (fun h => co2_0 h 5 (rC 80 110 ++ rC 40 70) [[12], [23]] (by kernel_rfl) (fun _ _ => by kernel_rfl))
 (fun h => co2_0 h 2 (rC 40 70 ++ rC 80 110) [[12], [9]] (by kernel_rfl) (fun _ _ => by kernel_rfl)))
 (fun h => co2_0 h 2 (rC 40 70 ++ rC 80 110) [[12], [9]] (by kernel_rfl) (fun _ _ => by kernel_rfl))

theorem canQ2_0b_2 (val : Nat → Int) (h : Holds val [tN 0 10, tN 0 16, tI 7 0, .at (.lt (.a 102) (.a 62)) false, .at (.le (.a 62) (.a 102)) true, tN 40 3, tN 80 3]) : CanQ2_0 val := by_eq 0 11 h (fun h => by_eq 40 1 h (fun h => by_eq 80 2 h (fun h => co2_0 h 5 (rC 80 110 ++ rC 40 70) [[12], [23]] (by kernel_rfl) (fun _ _ => by kernel_rfl))
 (fun h => by_eq 80 1 h (fun h => by_e2 61 101 h (fun h => co2_0 h 2 (rC 40 70 ++ rC 80 110) [[12], [9]] (by kernel_rfl) (fun _ _ => by kernel_rfl))
 (fun h => co2_0 h 2 (rC 40 70 ++ rC 80 110) [[12], [9]] (by kernel_rfl) (fun _ _ => by kernel_rfl)))
 (fun h => co2_0 h 2 (rC 40 70 ++ rC 80 110) [[12], [9]] (by kernel_rfl) (fun _ _ => by kernel_rfl))))
 (fun h => co2_0 h 2 (rC 40 70 ++ rC 80 110) [[12], [9]] (by kernel_rfl) (fun _ _ => by kernel_rfl)))
 (fun h => co2_0 h 2 (rC 40 70 ++ rC 80 110) [[12], [9]] (by kernel_rfl) (fun _ _ => by kernel_rfl))

theorem canQ2_0b (val : Nat → Int) (h : Holds val [.is (.a 7) 0, .at (.lt (.a 102) (.a 62)) false, .at (.le (.a 62) (.a 102)) true, .ne (.a 40) 3, .ne (.a 80) 3]) : CanQ2_0 val := by_eq 0 16 h (fun h => canQ2_0b_0 val h)
 (fun h => by_eq 0 10 h (fun h => canQ2_0b_1 val h)
 (fun h => canQ2_0b_2 val h))


theorem canQ3_0 (val : Nat → Int) (h : Holds val [.is (.a 7) 0, .ne (.a 40) 3, .ne (.a 80) 3, .ne (.a 120) 3]) : CanQ3_0 val := by_eq 0 16 h (fun h => co3_0 h 3 (rC 40 70 ++ rC 80 110 ++ rC 120 150) [[12], [12]] (by kernel_rfl) (fun _ _ => by kernel_rfl))
 (fun h => by_eq 0 10 h (fun h => co3_0 h 3 (rC 40 70 ++ rC 80 110 ++ rC 120 150) [[12], [12]] (by kernel_rfl) (fun _ _ => by kernel_rfl))
 (fun h => by_eq 0 11 h (fun h => co3_0 h 3 (rC 40 70 ++ rC 80 110 ++ rC 120 150) [[12], [12]] (by kernel_rfl) (fun _ _ => by kernel_rfl))
 (fun h => co3_0 h 3 (rC 40 70 ++ rC 80 110 ++ rC 120 150) [[12], [12]] (by kernel_rfl) (fun _ _ => by kernel_rfl))))


theorem canQ3_4 (val : Nat → Int) (h : Holds val [.is (.a 7) 0, .ne (.a 40) 3, .ne (.a 80) 3, .is (.a 120) 3]) : CanQ3_4 val := by_eq 0 16 h (fun h => co3_4 h 3 (rC 40 70 ++ rC 80 110 ++ rC 120 152) [[12], [12]] (by kernel_rfl) (fun _ _ => by kernel_rfl))
 (fun h => by_eq 0 10 h (fun h => co3_4 h 3 (rC 40 70 ++ rC 80 110 ++ rC 120 152) [[12], [12]] (by kernel_rfl) (fun _ _ => by kernel_rfl))
 (fun h => by_eq 0 11 h (fun h => co3_4 h 3 (rC 40 70 ++ rC 80 110 ++ rC 120 152) [[12], [12]] (by kernel_rfl) (fun _ _ => by kernel_rfl))
 (fun h => co3_4 h 3 (rC 40 70 ++ rC 80 110 ++ rC 120 152) [[12], [12]] (by kernel_rfl) (fun _ _ => by kernel_rfl))))


theorem canQ4_0 (val : Nat → Int) (h : Holds val [.is (.a 7) 0, .ne (.a 40) 3, .ne (.a 80) 3, .ne (.a 120) 3, .ne (.a 160) 3]) : CanQ4_0 val := by_eq 0 16 h (fun h => co4_0 h 4 (rC 40 70 ++ rC 80 110 ++ rC 120 150 ++ rC 160 190) [[12], [15]] (by kernel_rfl) (fun _ _ => by kernel_rfl))
 (fun h => by_eq 0 10 h (fun h => co4_0 h 4 (rC 40 70 ++ rC 80 110 ++ rC 120 150 ++ rC 160 190) [[12], [15]] (by kernel_rfl) (fun _ _ => by kernel_rfl))
 (fun h => by_eq 0 11 h (fun h => co4_0 h 4 (rC 40 70 ++ rC 80 110 ++ rC 120 150 ++ rC 160 190) [[12], [15]] (by kernel_rfl) (fun _ _ => by kernel_rfl))
 (fun h => co4_0 h 4 (rC 40 70 ++ rC 80 110 ++ rC 120 150 ++ rC 160 190) [[12], [15]] (by kernel_rfl) (fun _ _ => by kernel_rfl))))


theorem canQ4_4 (val : Nat → Int) (h : Holds val [.is (.a 7) 0, .ne (.a 40) 3, .ne (.a 80) 3, .is (.a 120) 3, .ne (.a 160) 3]) : CanQ4_4 val := by_eq 0 16 h (fun h => co4_4 h 4 (rC 40 70 ++ rC 80 110 ++ rC 120 152 ++ rC 160 190) [[12], [15]] (by kernel_rfl) (fun _ _ => by kernel_rfl))
 (fun h => by_eq 0 10 h (fun h => co4_4 h 4 (rC 40 70 ++ rC 80 110 ++ rC 120 152 ++ rC 160 190) [[12], [15]] (by kernel_rfl) (fun _ _ => by kernel_rfl))
 (fun h => by_eq 0 11 h (fun h => co4_4 h 4 (rC 40 70 ++ rC 80 110 ++ rC 120 152 ++ rC 160 190) [[12], [15]] (by kernel_rfl) (fun _ _ => by kernel_rfl))
 (fun h => co4_4 h 4 (rC 40 70 ++ rC 80 110 ++ rC 120 152 ++ rC 160 190) [[12], [15]] (by kernel_rfl) (fun _ _ => by kernel_rfl))))


theorem canQ4_8 (val : Nat → Int) (h : Holds val [.is (.a 7) 0, .ne (.a 40) 3, .ne (.a 80) 3, .ne (.a 120) 3, .is (.a 160) 3]) : CanQ4_8 val := by_eq 0 16 h (fun h => co4_8 h 4 (rC 40 70 ++ rC 80 110 ++ rC 120 150 ++ rC 160 192) [[12], [15]] (by kernel_rfl) (fun _ _ => by kernel_rfl))
 (fun h => by_eq 0 10 h (fun h => co4_8 h 4 (rC 40 70 ++ rC 80 110 ++ rC 120 150 ++ rC 160 192) [[12], [15]] (by kernel_rfl) (fun _ _ => by kernel_rfl))
 (fun h => by_eq 0 11 h (fun h => co4_8 h 4 (rC 40 70 ++ rC 80 110 ++ rC 120 150 ++ rC 160 192) [[12], [15]] (by kernel_rfl) (fun _ _ => by kernel_rfl))
 (fun h => co4_8 h 4 (rC 40 70 ++ rC 80 110 ++ rC 120 150 ++ rC 160 192) [[12], [15]] (by kernel_rfl) (fun _ _ => by kernel_rfl))))


theorem canQ4_12 (val : Nat → Int) (h : Holds val [.is (.a 7) 0, .ne (.a 40) 3, .ne (.a 80) 3, .is (.a 120) 3, .is (.a 160) 3]) : CanQ4_12 val := by_eq 0 16 h (fun h => co4_12 h 4 (rC 40 70 ++ rC 80 110 ++ rC 120 152 ++ rC 160 192) [[12], [15]] (by kernel_rfl) (fun _ _ => by kernel_rfl))
 (fun h => by_eq 0 10 h (fun h => co4_12 h 4 (rC 40 70 ++ rC 80 110 ++ rC 120 152 ++ rC 160 192) [[12], [15]] (by kernel_rfl) (fun _ _ => by kernel_rfl))
 (fun h => by_eq 0 11 h (fun h => co4_12 h 4 (rC 40 70 ++ rC 80 110 ++ rC 120 152 ++ rC 160 192) [[12], [15]] (by kernel_rfl) (fun _ _ => by kernel_rfl))
 (fun h => co4_12 h 4 (rC 40 70 ++ rC 80 110 ++ rC 120 152 ++ rC 160 192) [[12], [15]] (by kernel_rfl) (fun _ _ => by kernel_rfl))))


theorem canEQ0 (val : Nat → Int) (h : Holds val [.ne (.a 7) 0, .is (.a 1) 0]) : CanEQ0 val := ce0 h (by kernel_rfl) (fun _ _ _ _ => by kernel_rfl)


theorem canEQ2 (val : Nat → Int) (h : Holds val [.ne (.a 7) 0]) : CanEQ2 val := ce2 h (by kernel_rfl) (fun _ _ => by kernel_rfl)


theorem canEQ5 (val : Nat → Int) (h : Holds val [.ne (.a 7) 0]) : CanEQ5 val := ce5 h (by kernel_rfl) (fun _ _ => by kernel_rfl)


theorem canEQ8 (val : Nat → Int) (h : Holds val [.ne (.a 7) 0]) : CanEQ8 val := ce8 h (by kernel_rfl) (fun _ _ => by kernel_rfl)

end Go.Proofs.Ytndiilfjeconbaa.Tab
