/-
  Ways through the code, part 5.
-/
import Derived.Test.YtndiilfjeconbaaInsH
namespace Go.Proofs.Ytndiilfjeconbaa.Tab
open Go.Sim
set_option maxRecDepth 100000
set_option linter.unusedSimpArgs false
set_option maxHeartbeats 4000000

theorem checkQ2z_0 (val : Nat → Int) (h : Holds val [tI 40 2, tI 91 0, tI 51 0, tI 2 1]) : CheckQ2z val := by_eq 80 2 h (fun h => cl2z h [(.c 2)] (by kernel_rfl) (fun _ _ => by kernel_rfl))
 (fun h => by_eq 80 4 h (fun h => cl2z h [(.c 0)] (by kernel_rfl) (fun _ _ => by kernel_rfl))
 (fun h => by_eq 80 3 h (fun h => cl2z h [(.c 2)] (by kernel_rfl) (fun _ _ => by kernel_rfl))
 (fun h => cl2z h [(.c 0)] (by kernel_rfl) (fun _ _ => by kernel_rfl))))

theorem checkQ2z_1 (val : Nat → Int) (h : Holds val [tI 40 4, tN 40 2, tI 91 0, tI 51 0, tI 2 1]) : CheckQ2z val := by_eq 80 2 h (fun h => cl2z h [(.c 0)] (by kernel_rfl) (fun _ _ => by kernel_rfl))
 (fun h => by_eq 80 4 h (fun h => cl2z h [(.c 2)] (by kernel_rfl) (fun _ _ => by kernel_rfl))
 (fun h => by_eq 80 3 h (fun h => cl2z h [(.c 2)] (by kernel_rfl) (fun _ _ => by kernel_rfl))
 (fun h => cl2z h [(.c 0)] (by kernel_rfl) (fun _ _ => by kernel_rfl))))

theorem checkQ2z_2 (val : Nat → Int) (h : Holds val [tN 40 4, tN 40 2, tI 91 0, tI 51 0, tI 2 1]) : CheckQ2z val := by_eq 40 3 h (fun h => by_eq 80 2 h (fun h => cl2z h [(.c 2)] (by kernel_rfl) (fun _ _ => by kernel_rfl))
 (fun h => by_eq 80 4 h (fun h => cl2z h [(.c 2)] (by kernel_rfl) (fun _ _ => by kernel_rfl))
 (fun h => by_eq 80 3 h (fun h => cl2z h [(.c 2)] (by kernel_rfl) (fun _ _ => by kernel_rfl))
 (fun h => cl2z h [(.c 2)] (by kernel_rfl) (fun _ _ => by kernel_rfl)))))
 (fun h => by_eq 80 2 h (fun h => cl2z h [(.c 0)] (by kernel_rfl) (fun _ _ => by kernel_rfl))
 (fun h => by_eq 80 4 h (fun h => cl2z h [(.c 0)] (by kernel_rfl) (fun _ _ => by kernel_rfl))
 (fun h => by_eq 80 3 h (fun h => cl2z h [(.c 2)] (by kernel_rfl) (fun _ _ => by kernel_rfl))
 (fun h => cl2z h [(.c 0)] (by kernel_rfl) (fun _ _ => by kernel_rfl)))))

theorem checkQ2z_3 (val : Nat → Int) (h : Holds val [tN 91 0, tI 51 0, tI 2 1]) : CheckQ2z val := cl2z h [(.a 91)] (by kernel_rfl) (fun _ _ => by kernel_rfl)

theorem checkQ2z_4 (val : Nat → Int) (h : Holds val [tN 51 0, tI 2 1]) : CheckQ2z val := cl2z h [(.a 51)] (by kernel_rfl) (fun _ _ => by kernel_rfl)

theorem checkQ2z_5 (val : Nat → Int) (h : Holds val [tN 2 1]) : CheckQ2z val := cl2z h [(.c 6)] (by kernel_rfl) (fun _ _ => by kernel_rfl)

theorem checkQ2z (val : Nat → Int) : CheckQ2z val :=
  have h : Holds val [] := holds_nil
  by_eq 2 1 h (fun h => by_eq 51 0 h (fun h => by_eq 91 0 h (fun h => by_eq 40 2 h (fun h => checkQ2z_0 val h)
 (fun h => by_eq 40 4 h (fun h => checkQ2z_1 val h)
 (fun h => checkQ2z_2 val h)))
 (fun h => checkQ2z_3 val h))
 (fun h => checkQ2z_4 val h))
 (fun h => checkQ2z_5 val h)


theorem checkQ1 (val : Nat → Int) (h : Holds val [.ne (.a 5) 0]) : CheckQ1 val := by_eq 2 1 h (fun h => by_eq 51 0 h (fun h => by_eq 40 2 h (fun h => cl1 h [(.c 0)] (by kernel_rfl) (fun _ _ => by kernel_rfl))
 (fun h => by_eq 40 4 h (fun h => cl1 h [(.c 0)] (by kernel_rfl) (fun _ _ => by kernel_rfl))
 (fun h => by_eq 40 3 h (fun h => by_eq 71 0 h (fun h => cl1 h [(.a 71)] (by kernel_rfl) (fun _ _ => by kernel_rfl))
 (fun h => cl1 h [(.a 71)] (by kernel_rfl) (fun _ _ => by kernel_rfl)))
 (fun h => cl1 h [(.c 0)] (by kernel_rfl) (fun _ _ => by kernel_rfl)))))
 (fun h => cl1 h [(.a 51)] (by kernel_rfl) (fun _ _ => by kernel_rfl)))
 (fun h => cl1 h [(.c 6)] (by kernel_rfl) (fun _ _ => by kernel_rfl))


theorem checkQ0 (val : Nat → Int) (h : Holds val [.ne (.a 5) 0, .is (.a 1) 0]) : CheckQ0 val := by_eq 2 1 h (fun h => cl0 h [(.c 0)] (by kernel_rfl) (fun _ _ _ _ => by kernel_rfl))
 (fun h => cl0 h [(.c 6)] (by kernel_rfl) (fun _ _ _ _ => by kernel_rfl))


theorem checkQ0z (val : Nat → Int) (h : Holds val [.is (.a 1) 0]) : CheckQ0z val := by_eq 2 1 h (fun h => cl0z h [(.c 0)] (by kernel_rfl) (fun _ _ _ _ => by kernel_rfl))
 (fun h => cl0z h [(.c 6)] (by kernel_rfl) (fun _ _ _ _ => by kernel_rfl))


theorem checkQ5 (val : Nat → Int) (h : Holds val [.ne (.a 5) 0]) : CheckQ5 val := by_eq 2 1 h (fun h => cl5 h [(.c 3)] (by kernel_rfl) (fun _ _ => by kernel_rfl))
 (fun h => cl5 h [(.c 6)] (by kernel_rfl) (fun _ _ => by kernel_rfl))


theorem checkQ6 (val : Nat → Int) (h : Holds val [.ne (.a 5) 0]) : CheckQ6 val := by_eq 2 1 h (fun h => cl6 h [(.c 3)] (by kernel_rfl) (fun _ _ => by kernel_rfl))
 (fun h => cl6 h [(.c 6)] (by kernel_rfl) (fun _ _ => by kernel_rfl))


theorem checkQ7 (val : Nat → Int) (h : Holds val [.ne (.a 5) 0]) : CheckQ7 val := by_eq 2 1 h (fun h => cl7 h [(.c 3)] (by kernel_rfl) (fun _ _ => by kernel_rfl))
 (fun h => cl7 h [(.c 6)] (by kernel_rfl) (fun _ _ => by kernel_rfl))


theorem checkQ8 (val : Nat → Int) (h : Holds val [.ne (.a 5) 0]) : CheckQ8 val := by_eq 2 1 h (fun h => cl8 h [(.c 3)] (by kernel_rfl) (fun _ _ => by kernel_rfl))
 (fun h => cl8 h [(.c 6)] (by kernel_rfl) (fun _ _ => by kernel_rfl))


theorem checkQ9 (val : Nat → Int) (h : Holds val [.ne (.a 5) 0]) : CheckQ9 val := by_eq 2 1 h (fun h => cl9 h [(.c 3)] (by kernel_rfl) (fun _ _ => by kernel_rfl))
 (fun h => cl9 h [(.c 6)] (by kernel_rfl) (fun _ _ => by kernel_rfl))

end Go.Proofs.Ytndiilfjeconbaa.Tab
