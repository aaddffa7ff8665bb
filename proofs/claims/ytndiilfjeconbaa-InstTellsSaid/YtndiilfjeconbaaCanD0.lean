/-
  Ways through the code, part 0.
-/
import Derived.Test.YtndiilfjeconbaaCanH
namespace Go.Proofs.Ytndiilfjeconbaa.Tab
open Go.Sim
set_option maxRecDepth 100000
set_option linter.unusedSimpArgs false
set_option maxHeartbeats 4000000

theorem canQ2_0a_0 (val : Nat → Int) (h : Holds val [tI 0 16, tI 7 0, .at (.lt (.a 102) (.a 62)) true, .at (.le (.a 62) (.a 102)) false, tN 40 3, tN 80 3]) : CanQ2_0 val := by_eq 40 1 h (fun h => co2_0 h 2 (rC 40 70 ++ rC 80 110) [[12], [9]] (by kernel_rfl) (fun _ _ => by kernel_rfl))
 (fun h => co2_0 h 2 (rC 40 70 ++ rC 80 110) [[12], [9]] (by kernel_rfl) (fun _ _ => by kernel_rfl))

theorem canQ2_0a_1 (val : Nat → Int) (h : Holds val [tI 0 10, tN 0 16, tI 7 0, .at (.lt (.a 102) (.a 62)) true, .at (.le (.a 62) (.a 102)) false, tN 40 3, tN 80 3]) : CanQ2_0 val := by_eq 40 1 h (fun h => by_eq 80 2 h (fun h => co2_0 h 5 (rC 80 110 ++ rC 40 70) [[12], [23]] (by kernel_rfl) (fun _ _ => by kernel_rfl))
 (fun h => co2_0 h 2 (rC 40 70 ++ rC 80 110) [[12], [9]] (by kernel_rfl) (fun _ _ => by kernel_rfl)))
 (fun h => co2_0 h 2 (rC 40 70 ++ rC 80 110) [[12], [9]] (by kernel_rfl) (fun _ _ => by kernel_rfl))

theorem canQ2_0a_2 (val : Nat → Int) (h : Holds val [tN 0 10, tN 0 16, tI 7 0, .at (.lt (.a 102) (.a 62)) true, .at (.le (.a 62) (.a 102)) false, tN 40 3, tN 80 3]) : CanQ2_0 val := by_eq 0 11 h (fun h => by_eq 40 1 h (fun h => by_eq 80 2 h (fun h => co2_0 h 5 (rC 80 110 ++ rC 40 70) [[12], [23]] (by kernel_rfl) (fun _ _ => by kernel_rfl))
 (fun h => by_eq 80 1 h (fun h => by_e2 61 101 h (fun h => co2_0 h 5 (rC 80 110 ++ rC 40 70) [[12], [52]] (by kernel_rfl) (fun _ _ => by kernel_rfl))
 (fun h => co2_0 h 2 (rC 40 70 ++ rC 80 110) [[12], [9]] (by kernel_rfl) (fun _ _ => by kernel_rfl)))
 (fun h => co2_0 h 2 (rC 40 70 ++ rC 80 110) [[12], [9]] (by kernel_rfl) (fun _ _ => by kernel_rfl))))
 (fun h => co2_0 h 2 (rC 40 70 ++ rC 80 110) [[12], [9]] (by kernel_rfl) (fun _ _ => by kernel_rfl)))
 (fun h => co2_0 h 2 (rC 40 70 ++ rC 80 110) [[12], [9]] (by kernel_rfl) (fun _ _ => by kernel_rfl))

theorem canQ2_0a (val : Nat → Int) (h : Holds val [.is (.a 7) 0, .at (.lt (.a 102) (.a 62)) true, .at (.le (.a 62) (.a 102)) false, .ne (.a 40) 3, .ne (.a 80) 3]) : CanQ2_0 val := by_eq 0 16 h (fun h => canQ2_0a_0 val h)
 (fun h => by_eq 0 10 h (fun h => canQ2_0a_1 val h)
 (fun h => canQ2_0a_2 val h))


theorem canQ2_3 (val : Nat → Int) (h : Holds val [.is (.a 7) 0, .is (.a 40) 3, .is (.a 80) 3]) : CanQ2_3 val := by_eq 0 16 h (fun h => co2_3 h 2 (rC 40 72 ++ rC 80 112) [[12], [9]] (by kernel_rfl) (fun _ _ => by kernel_rfl))
 (fun h => by_eq 0 10 h (fun h => co2_3 h 2 (rC 40 72 ++ rC 80 112) [[12], [9]] (by kernel_rfl) (fun _ _ => by kernel_rfl))
 (fun h => by_eq 0 11 h (fun h => co2_3 h 2 (rC 40 72 ++ rC 80 112) [[12], [9]] (by kernel_rfl) (fun _ _ => by kernel_rfl))
 (fun h => co2_3 h 2 (rC 40 72 ++ rC 80 112) [[12], [9]] (by kernel_rfl) (fun _ _ => by kernel_rfl))))


theorem canQ3_3 (val : Nat → Int) (h : Holds val [.is (.a 7) 0, .is (.a 40) 3, .is (.a 80) 3, .ne (.a 120) 3]) : CanQ3_3 val := by_eq 0 16 h (fun h => co3_3 h 3 (rC 40 72 ++ rC 80 112 ++ rC 120 150) [[12], [12]] (by kernel_rfl) (fun _ _ => by kernel_rfl))
 (fun h => by_eq 0 10 h (fun h => co3_3 h 3 (rC 40 72 ++ rC 80 112 ++ rC 120 150) [[12], [12]] (by kernel_rfl) (fun _ _ => by kernel_rfl))
 (fun h => by_eq 0 11 h (fun h => co3_3 h 3 (rC 40 72 ++ rC 80 112 ++ rC 120 150) [[12], [12]] (by kernel_rfl) (fun _ _ => by kernel_rfl))
 (fun h => co3_3 h 3 (rC 40 72 ++ rC 80 112 ++ rC 120 150) [[12], [12]] (by kernel_rfl) (fun _ _ => by kernel_rfl))))


theorem canQ3_7 (val : Nat → Int) (h : Holds val [.is (.a 7) 0, .is (.a 40) 3, .is (.a 80) 3, .is (.a 120) 3]) : CanQ3_7 val := by_eq 0 16 h (fun h => co3_7 h 3 (rC 40 72 ++ rC 80 112 ++ rC 120 152) [[12], [12]] (by kernel_rfl) (fun _ _ => by kernel_rfl))
 (fun h => by_eq 0 10 h (fun h => co3_7 h 3 (rC 40 72 ++ rC 80 112 ++ rC 120 152) [[12], [12]] (by kernel_rfl) (fun _ _ => by kernel_rfl))
 (fun h => by_eq 0 11 h (fun h => co3_7 h 3 (rC 40 72 ++ rC 80 112 ++ rC 120 152) [[12], [12]] (by kernel_rfl) (fun _ _ => by kernel_rfl))
 (fun h => co3_7 h 3 (rC 40 72 ++ rC 80 112 ++ rC 120 152) [[12], [12]] (by kernel_rfl) (fun _ _ => by kernel_rfl))))


theorem canQ4_3 (val : Nat → Int) (h : Holds val [.is (.a 7) 0, .is (.a 40) 3, .is (.a 80) 3, .ne (.a 120) 3, .ne (.a 160) 3]) : CanQ4_3 val := by_eq 0 16 h (fun h => co4_3 h 4 (rC 40 72 ++ rC 80 112 ++ rC 120 150 ++ rC 160 190) [[12], [15]] (by kernel_rfl) (fun _ _ => by kernel_rfl))
 (fun h => by_eq 0 10 h (fun h => co4_3 h 4 (rC 40 72 ++ rC 80 112 ++ rC 120 150 ++ rC 160 190) [[12], [15]] (by kernel_rfl) (fun _ _ => by kernel_rfl))
 (fun h => by_eq 0 11 h (fun h => co4_3 h 4 (rC 40 72 ++ rC 80 112 ++ rC 120 150 ++ rC 160 190) [[12], [15]] (by kernel_rfl) (fun _ _ => by kernel_rfl))
 (fun h => co4_3 h 4 (rC 40 72 ++ rC 80 112 ++ rC 120 150 ++ rC 160 190) [[12], [15]] (by kernel_rfl) (fun _ _ => by kernel_rfl))))


theorem canQ4_7 (val : Nat → Int) (h : Holds val [.is (.a 7) 0, .is (.a 40) 3, .is (.a 80) 3, .is (.a 120) 3, .ne (.a 160) 3]) : CanQ4_7 val := by_eq 0 16 h (fun h => co4_7 h 4 (rC 40 72 ++ rC 80 112 ++ rC 120 152 ++ rC 160 190) [[12], [15]] (by kernel_rfl) (fun _ _ => by kernel_rfl))
 (fun h => by_eq 0 10 h (fun h => co4_7 h 4 (rC 40 72 ++ rC 80 112 ++ rC 120 152 ++ rC 160 190) [[12], [15]] (by kernel_rfl) (fun _ _ => by kernel_rfl))
 (fun h => by_eq 0 11 h (fun h => co4_7 h 4 (rC 40 72 ++ rC 80 112 ++ rC 120 152 ++ rC 160 190) [[12], [15]] (by kernel_rfl) (fun _ _ => by kernel_rfl))
 (fun h => co4_7 h 4 (rC 40 72 ++ rC 80 112 ++ rC 120 152 ++ rC 160 190) [[12], [15]] (by kernel_rfl) (fun _ _ => by kernel_rfl))))


theorem canQ4_11 (val : Nat → Int) (h : Holds val [.is (.a 7) 0, .is (.a 40) 3, .is (.a 80) 3, .ne (.a 120) 3, .is (.a 160) 3]) : CanQ4_11 val := by_eq 0 16 h (fun h => co4_11 h 4 (rC 40 72 ++ rC 80 112 ++ rC 120 150 ++ rC 160 192) [[12], [15]] (by kernel_rfl) (fun _ _ => by kernel_rfl))
 (fun h => by_eq 0 10 h (fun h => co4_11 h 4 (rC 40 72 ++ rC 80 112 ++ rC 120 150 ++ rC 160 192) [[12], [15]] (by kernel_rfl) (fun _ _ => by kernel_rfl))
 (fun h => by_eq 0 11 h (fun h => co4_11 h 4 (rC 40 72 ++ rC 80 112 ++ rC 120 150 ++ rC 160 192) [[12], [15]] (by kernel_rfl) (fun _ _ => by kernel_rfl))
 (fun h => co4_11 h 4 (rC 40 72 ++ rC 80 112 ++ rC 120 150 ++ rC 160 192) [[12], [15]] (by kernel_rfl) (fun _ _ => by kernel_rfl))))


theorem canQ4_15 (val : Nat → Int) (h : Holds val [.is (.a 7) 0, .is (.a 40) 3, .is (.a 80) 3, .is (.a 120) 3, .is (.a 160) 3]) : CanQ4_15 val := by_eq 0 16 h (fun h => co4_15 h 4 (rC 40 72 ++ rC 80 112 ++ rC 120 152 ++ rC 160 192) [[12], [15]] (by kernel_rfl) (fun _ _ => by kernel_rfl))
 (fun h => by_eq 0 10 h (fun h => co4_15 h 4 (rC 40 72 ++ rC 80 112 ++ rC 120 152 ++ rC 160 192) [[12], [15]] (by kernel_rfl) (fun _ _ => by kernel_rfl))
 (fun h => by_eq 0 11 h (fun h => co4_15 h 4 (rC 40 72 ++ rC 80 112 ++ rC 120 152 ++ rC 160 192) [[12], [15]] (by kernel_rfl) (fun _ _ => by kernel_rfl))
 (fun h => co4_15 h 4 (rC 40 72 ++ rC 80 112 ++ rC 120 152 ++ rC 160 192) [[12], [15]] (by kernel_rfl) (fun _ _ => by kernel_rfl))))

end Go.Proofs.Ytndiilfjeconbaa.Tab
