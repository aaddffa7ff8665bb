/-
  Ways through the code, part 0.
-/
import Derived.Test.YtndiilfjeconbaaInsH
namespace Go.Proofs.Ytndiilfjeconbaa.Tab
open Go.Sim
set_option maxRecDepth 100000
set_option linter.unusedSimpArgs false
set_option maxHeartbeats 4000000

theorem bitsQ1 (val : Nat → Int) (h : Holds val [.ge (.a 3) 0]) : BitsQ1 val := by_eq 2 1 h (fun h => by_eq 3 0 h (fun h => by_eq 52 0 h (fun h => bl1 h [(.c 0), (.c 0)] (by kernel_rfl) (fun _ _ => by kernel_rfl))
 (fun h => by_eq 4 1 h (fun h => bl1 h [(.wrap .i64 (.mul (.c 8) (.a 52))), (.c 1)] (by kernel_rfl) (fun _ _ => by kernel_rfl))
 (fun h => bl1 h [(.wrap .i64 (.mul (.c 8) (.a 52))), (.c 0)] (by kernel_rfl) (fun _ _ => by kernel_rfl))))
 (fun h => by_eq 4 1 h (fun h => bl1 h [(.a 3), (.c 1)] (by kernel_rfl) (fun _ _ => by kernel_rfl))
 (fun h => bl1 h [(.a 3), (.c 0)] (by kernel_rfl) (fun _ _ => by kernel_rfl))))
 (fun h => bl1 h [(.c 0), (.c 0)] (by kernel_rfl) (fun _ _ => by kernel_rfl))


theorem bitsQ3 (val : Nat → Int) (h : Holds val [.ge (.a 3) 0]) : BitsQ3 val := by_eq 2 1 h (fun h => by_eq 3 0 h (fun h => by_eq 52 0 h (fun h => bl3 h [(.c 0), (.c 0)] (by kernel_rfl) (fun _ _ => by kernel_rfl))
 (fun h => by_eq 4 1 h (fun h => bl3 h [(.wrap .i64 (.mul (.c 8) (.a 52))), (.c 1)] (by kernel_rfl) (fun _ _ => by kernel_rfl))
 (fun h => bl3 h [(.wrap .i64 (.mul (.c 8) (.a 52))), (.c 0)] (by kernel_rfl) (fun _ _ => by kernel_rfl))))
 (fun h => by_eq 4 1 h (fun h => bl3 h [(.a 3), (.c 1)] (by kernel_rfl) (fun _ _ => by kernel_rfl))
 (fun h => bl3 h [(.a 3), (.c 0)] (by kernel_rfl) (fun _ _ => by kernel_rfl))))
 (fun h => bl3 h [(.c 0), (.c 0)] (by kernel_rfl) (fun _ _ => by kernel_rfl))


theorem bitsQ5 (val : Nat → Int) (h : Holds val [.ge (.a 3) 0]) : BitsQ5 val := by_eq 2 1 h (fun h => by_eq 3 0 h (fun h => by_eq 52 0 h (fun h => bl5 h [(.c 0), (.c 0)] (by kernel_rfl) (fun _ _ => by kernel_rfl))
 (fun h => by_eq 4 1 h (fun h => bl5 h [(.wrap .i64 (.mul (.c 8) (.a 52))), (.c 1)] (by kernel_rfl) (fun _ _ => by kernel_rfl))
 (fun h => bl5 h [(.wrap .i64 (.mul (.c 8) (.a 52))), (.c 0)] (by kernel_rfl) (fun _ _ => by kernel_rfl))))
 (fun h => by_eq 4 1 h (fun h => bl5 h [(.a 3), (.c 1)] (by kernel_rfl) (fun _ _ => by kernel_rfl))
 (fun h => bl5 h [(.a 3), (.c 0)] (by kernel_rfl) (fun _ _ => by kernel_rfl))))
 (fun h => bl5 h [(.c 0), (.c 0)] (by kernel_rfl) (fun _ _ => by kernel_rfl))


theorem bitsQ7 (val : Nat → Int) (h : Holds val [.ge (.a 3) 0]) : BitsQ7 val := by_eq 2 1 h (fun h => by_eq 3 0 h (fun h => by_eq 52 0 h (fun h => bl7 h [(.c 0), (.c 0)] (by kernel_rfl) (fun _ _ => by kernel_rfl))
 (fun h => by_eq 4 1 h (fun h => bl7 h [(.wrap .i64 (.mul (.c 8) (.a 52))), (.c 1)] (by kernel_rfl) (fun _ _ => by kernel_rfl))
 (fun h => bl7 h [(.wrap .i64 (.mul (.c 8) (.a 52))), (.c 0)] (by kernel_rfl) (fun _ _ => by kernel_rfl))))
 (fun h => by_eq 4 1 h (fun h => bl7 h [(.a 3), (.c 1)] (by kernel_rfl) (fun _ _ => by kernel_rfl))
 (fun h => bl7 h [(.a 3), (.c 0)] (by kernel_rfl) (fun _ _ => by kernel_rfl))))
 (fun h => bl7 h [(.c 0), (.c 0)] (by kernel_rfl) (fun _ _ => by kernel_rfl))


theorem bitsQ9 (val : Nat → Int) (h : Holds val [.ge (.a 3) 0]) : BitsQ9 val := by_eq 2 1 h (fun h => by_eq 3 0 h (fun h => by_eq 52 0 h (fun h => bl9 h [(.c 0), (.c 0)] (by kernel_rfl) (fun _ _ => by kernel_rfl))
 (fun h => by_eq 4 1 h (fun h => bl9 h [(.wrap .i64 (.mul (.c 8) (.a 52))), (.c 1)] (by kernel_rfl) (fun _ _ => by kernel_rfl))
 (fun h => bl9 h [(.wrap .i64 (.mul (.c 8) (.a 52))), (.c 0)] (by kernel_rfl) (fun _ _ => by kernel_rfl))))
 (fun h => by_eq 4 1 h (fun h => bl9 h [(.a 3), (.c 1)] (by kernel_rfl) (fun _ _ => by kernel_rfl))
 (fun h => bl9 h [(.a 3), (.c 0)] (by kernel_rfl) (fun _ _ => by kernel_rfl))))
 (fun h => bl9 h [(.c 0), (.c 0)] (by kernel_rfl) (fun _ _ => by kernel_rfl))

end Go.Proofs.Ytndiilfjeconbaa.Tab
