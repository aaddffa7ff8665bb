/-
  Ways through the code, part 1.
-/
import Derived.Test.YtndiilfjeconbaaInsH
namespace Go.Proofs.Ytndiilfjeconbaa.Tab
open Go.Sim
set_option maxRecDepth 100000
set_option linter.unusedSimpArgs false
set_option maxHeartbeats 4000000

theorem bitsQ2 (val : Nat → Int) (h : Holds val [.ge (.a 3) 0]) : BitsQ2 val := by_eq 2 1 h (fun h => by_eq 3 0 h (fun h => by_eq 52 0 h (fun h => bl2 h [(.c 0), (.c 0)] (by kernel_rfl) (fun _ _ => by kernel_rfl))
 (fun h => by_eq 4 1 h (fun h => bl2 h [(.wrap .i64 (.mul (.c 8) (.a 52))), (.c 1)] (by kernel_rfl) (fun _ _ => by kernel_rfl))
 (fun h => bl2 h [(.wrap .i64 (.mul (.c 8) (.a 52))), (.c 0)] (by kernel_rfl) (fun _ _ => by kernel_rfl))))
 (fun h => by_eq 4 1 h (fun h => bl2 h [(.a 3), (.c 1)] (by kernel_rfl) (fun _ _ => by kernel_rfl))
 (fun h => bl2 h [(.a 3), (.c 0)] (by kernel_rfl) (fun _ _ => by kernel_rfl))))
 (fun h => bl2 h [(.c 0), (.c 0)] (by kernel_rfl) (fun _ _ => by kernel_rfl))


theorem bitsQ4 (val : Nat → Int) (h : Holds val [.ge (.a 3) 0]) : BitsQ4 val := by_eq 2 1 h (fun h => by_eq 3 0 h (fun h => by_eq 52 0 h (fun h => bl4 h [(.c 0), (.c 0)] (by kernel_rfl) (fun _ _ => by kernel_rfl))
 (fun h => by_eq 4 1 h (fun h => bl4 h [(.wrap .i64 (.mul (.c 8) (.a 52))), (.c 1)] (by kernel_rfl) (fun _ _ => by kernel_rfl))
 (fun h => bl4 h [(.wrap .i64 (.mul (.c 8) (.a 52))), (.c 0)] (by kernel_rfl) (fun _ _ => by kernel_rfl))))
 (fun h => by_eq 4 1 h (fun h => bl4 h [(.a 3), (.c 1)] (by kernel_rfl) (fun _ _ => by kernel_rfl))
 (fun h => bl4 h [(.a 3), (.c 0)] (by kernel_rfl) (fun _ _ => by kernel_rfl))))
 (fun h => bl4 h [(.c 0), (.c 0)] (by kernel_rfl) (fun _ _ => by kernel_rfl))


theorem bitsQ6 (val : Nat → Int) (h : Holds val [.ge (.a 3) 0]) : BitsQ6 val := by_eq 2 1 h (fun h => by_eq 3 0 h (fun h => by_eq 52 0 h (fun h => bl6 h [(.c 0), (.c 0)] (by kernel_rfl) (fun _ _ => by kernel_rfl))
 (fun h => by_eq 4 1 h (fun h => bl6 h [(.wrap .i64 (.mul (.c 8) (.a 52))), (.c 1)] (by kernel_rfl) (fun _ _ => by kernel_rfl))
 (fun h => bl6 h [(.wrap .i64 (.mul (.c 8) (.a 52))), (.c 0)] (by kernel_rfl) (fun _ _ => by kernel_rfl))))
 (fun h => by_eq 4 1 h (fun h => bl6 h [(.a 3), (.c 1)] (by kernel_rfl) (fun _ _ => by kernel_rfl))
 (fun h => bl6 h [(.a 3), (.c 0)] (by kernel_rfl) (fun _ _ => by kernel_rfl))))
 (fun h => bl6 h [(.c 0), (.c 0)] (by kernel_rfl) (fun _ _ => by kernel_rfl))


theorem bitsQ8 (val : Nat → Int) (h : Holds val [.ge (.a 3) 0]) : BitsQ8 val := by_eq 2 1 h (fun h => by_eq 3 0 h (fun h => by_eq 52 0 h (fun h => bl8 h [(.c 0), (.c 0)] (by kernel_rfl) (fun _ _ => by kernel_rfl))
 (fun h => by_eq 4 1 h (fun h => bl8 h [(.wrap .i64 (.mul (.c 8) (.a 52))), (.c 1)] (by kernel_rfl) (fun _ _ => by kernel_rfl))
 (fun h => bl8 h [(.wrap .i64 (.mul (.c 8) (.a 52))), (.c 0)] (by kernel_rfl) (fun _ _ => by kernel_rfl))))
 (fun h => by_eq 4 1 h (fun h => bl8 h [(.a 3), (.c 1)] (by kernel_rfl) (fun _ _ => by kernel_rfl))
 (fun h => bl8 h [(.a 3), (.c 0)] (by kernel_rfl) (fun _ _ => by kernel_rfl))))
 (fun h => bl8 h [(.c 0), (.c 0)] (by kernel_rfl) (fun _ _ => by kernel_rfl))


theorem bitsQ0 (val : Nat → Int) (h : Holds val [.ge (.a 3) 0, .is (.a 1) 0]) : BitsQ0 val := by_eq 2 1 h (fun h => by_eq 3 0 h (fun h => bl0 h [(.c 0), (.c 0)] (by kernel_rfl) (fun _ _ _ _ => by kernel_rfl))
 (fun h => by_eq 4 1 h (fun h => bl0 h [(.a 3), (.c 1)] (by kernel_rfl) (fun _ _ _ _ => by kernel_rfl))
 (fun h => bl0 h [(.a 3), (.c 0)] (by kernel_rfl) (fun _ _ _ _ => by kernel_rfl))))
 (fun h => bl0 h [(.c 0), (.c 0)] (by kernel_rfl) (fun _ _ _ _ => by kernel_rfl))

end Go.Proofs.Ytndiilfjeconbaa.Tab
