/-
  Ways through the code, part 4.
-/
import Derived.Test.YtndiilfjeconbaaInsH
namespace Go.Proofs.Ytndiilfjeconbaa.Tab
open Go.Sim
set_option maxRecDepth 100000
set_option linter.unusedSimpArgs false
set_option maxHeartbeats 4000000

theorem checkQ2_0 (val : Nat → Int) (h : Holds val [tI 40 2, tI 91 0, tI 51 0, tI 2 1, tN 5 0]) : CheckQ2 val := by_eq 80 2 h (fun h => cl2 h [(.c 2)] (by kernel_rfl) (fun _ _ => by kernel_rfl))
 (fun h => by_eq 80 4 h (fun h => cl2 h [(.c 0)] (by kernel_rfl) (fun _ _ => by kernel_rfl))
 (fun h => by_eq 80 3 h (fun h => by_eq 111 0 h (fun h => cl2 h [(.a 111)] (by kernel_rfl) (fun _ _ => by kernel_rfl))
 (fun h => cl2 h [(.a 111)] (by kernel_rfl) (fun _ _ => by kernel_rfl)))
 (fun h => cl2 h [(.c 0)] (by kernel_rfl) (fun _ _ => by kernel_rfl))))

theorem checkQ2_1 (val : Nat → Int) (h : Holds val [tI 40 4, tN 40 2, tI 91 0, tI 51 0, tI 2 1, tN 5 0]) : CheckQ2 val := by_eq 80 2 h (fun h => cl2 h [(.c 0)] (by kernel_rfl) (fun _ _ => by kernel_rfl))
 (fun h => by_eq 80 4 h (fun h => cl2 h [(.c 2)] (by kernel_rfl) (fun _ _ => by kernel_rfl))
 (fun h => by_eq 80 3 h (fun h => by_eq 111 0 h (fun h => cl2 h [(.a 111)] (by kernel_rfl) (fun _ _ => by kernel_rfl))
 (fun h => cl2 h [(.a 111)] (by kernel_rfl) (fun _ _ => by kernel_rfl)))
 (fun h => cl2 h [(.c 0)] (by kernel_rfl) (fun _ _ => by kernel_rfl))))

theorem checkQ2_2 (val : Nat → Int) (h : Holds val [tI 40 3, tN 40 4, tN 40 2, tI 91 0, tI 51 0, tI 2 1, tN 5 0]) : CheckQ2 val := by_eq 80 2 h (fun h => by_eq 71 0 h (fun h => cl2 h [(.a 71)] (by kernel_rfl) (fun _ _ => by kernel_rfl))
 (fun h => cl2 h [(.a 71)] (by kernel_rfl) (fun _ _ => by kernel_rfl)))
 (fun h => by_eq 80 4 h (fun h => by_eq 71 0 h (fun h => cl2 h [(.a 71)] (by kernel_rfl) (fun _ _ => by kernel_rfl))
 (fun h => cl2 h [(.a 71)] (by kernel_rfl) (fun _ _ => by kernel_rfl)))
 (fun h => by_eq 80 3 h (fun h => cl2 h [(.c 2)] (by kernel_rfl) (fun _ _ => by kernel_rfl))
 (fun h => by_eq 71 0 h (fun h => cl2 h [(.a 71)] (by kernel_rfl) (fun _ _ => by kernel_rfl))
 (fun h => cl2 h [(.a 71)] (by kernel_rfl) (fun _ _ => by kernel_rfl)))))

theorem checkQ2_3 (val : Nat → Int) (h : Holds val [tN 40 3, tN 40 4, tN 40 2, tI 91 0, tI 51 0, tI 2 1, tN 5 0]) : CheckQ2 val := by_eq 80 2 h (fun h => cl2 h [(.c 0)] (by kernel_rfl) (fun _ _ => by kernel_rfl))
 (fun h => by_eq 80 4 h (fun h => cl2 h [(.c 0)] (by kernel_rfl) (fun _ _ => by kernel_rfl))
 (fun h => by_eq 80 3 h (fun h => by_eq 111 0 h (fun h => cl2 h [(.a 111)] (by kernel_rfl) (fun _ _ => by kernel_rfl))
 (fun h => cl2 h [(.a 111)] (by kernel_rfl) (fun _ _ => by kernel_rfl)))
 (fun h => cl2 h [(.c 0)] (by kernel_rfl) (fun _ _ => by kernel_rfl))))

theorem checkQ2_4 (val : Nat → Int) (h : Holds val [tN 91 0, tI 51 0, tI 2 1, tN 5 0]) : CheckQ2 val := cl2 h [(.a 91)] (by kernel_rfl) (fun _ _ => by kernel_rfl)

theorem checkQ2_5 (val : Nat → Int) (h : Holds val [tN 51 0, tI 2 1, tN 5 0]) : CheckQ2 val := cl2 h [(.a 51)] (by kernel_rfl) (fun _ _ => by kernel_rfl)

theorem checkQ2_6 (val : Nat → Int) (h : Holds val [tN 2 1, tN 5 0]) : CheckQ2 val := cl2 h [(.c 6)] (by kernel_rfl) (fun _ _ => by kernel_rfl)

theorem checkQ2 (val : Nat → Int) (h : Holds val [.ne (.a 5) 0]) : CheckQ2 val := by_eq 2 1 h (fun h => by_eq 51 0 h (fun h => by_eq 91 0 h (fun h => by_eq 40 2 h (fun h => checkQ2_0 val h)
 (fun h => by_eq 40 4 h (fun h => checkQ2_1 val h)
 (fun h => by_eq 40 3 h (fun h => checkQ2_2 val h)
 (fun h => checkQ2_3 val h))))
 (fun h => checkQ2_4 val h))
 (fun h => checkQ2_5 val h))
 (fun h => checkQ2_6 val h)


theorem checkQ1z (val : Nat → Int) : CheckQ1z val :=
  have h : Holds val [] := holds_nil
  by_eq 2 1 h (fun h => by_eq 51 0 h (fun h => by_eq 40 2 h (fun h => cl1z h [(.c 0)] (by kernel_rfl) (fun _ _ => by kernel_rfl))
 (fun h => by_eq 40 4 h (fun h => cl1z h [(.c 0)] (by kernel_rfl) (fun _ _ => by kernel_rfl))
 (fun h => by_eq 40 3 h (fun h => cl1z h [(.c 2)] (by kernel_rfl) (fun _ _ => by kernel_rfl))
 (fun h => cl1z h [(.c 0)] (by kernel_rfl) (fun _ _ => by kernel_rfl)))))
 (fun h => cl1z h [(.a 51)] (by kernel_rfl) (fun _ _ => by kernel_rfl)))
 (fun h => cl1z h [(.c 6)] (by kernel_rfl) (fun _ _ => by kernel_rfl))


theorem checkQ5z (val : Nat → Int) : CheckQ5z val :=
  have h : Holds val [] := holds_nil
  by_eq 2 1 h (fun h => cl5z h [(.c 3)] (by kernel_rfl) (fun _ _ => by kernel_rfl))
 (fun h => cl5z h [(.c 6)] (by kernel_rfl) (fun _ _ => by kernel_rfl))


theorem checkQ6z (val : Nat → Int) : CheckQ6z val :=
  have h : Holds val [] := holds_nil
  by_eq 2 1 h (fun h => cl6z h [(.c 3)] (by kernel_rfl) (fun _ _ => by kernel_rfl))
 (fun h => cl6z h [(.c 6)] (by kernel_rfl) (fun _ _ => by kernel_rfl))


theorem checkQ7z (val : Nat → Int) : CheckQ7z val :=
  have h : Holds val [] := holds_nil
  by_eq 2 1 h (fun h => cl7z h [(.c 3)] (by kernel_rfl) (fun _ _ => by kernel_rfl))
 (fun h => cl7z h [(.c 6)] (by kernel_rfl) (fun _ _ => by kernel_rfl))


theorem checkQ8z (val : Nat → Int) : CheckQ8z val :=
  have h : Holds val [] := holds_nil
  by_eq 2 1 h (fun h => cl8z h [(.c 3)] (by kernel_rfl) (fun _ _ => by kernel_rfl))
 (fun h => cl8z h [(.c 6)] (by kernel_rfl) (fun _ _ => by kernel_rfl))


theorem checkQ9z (val : Nat → Int) : CheckQ9z val :=
  have h : Holds val [] := holds_nil
  by_eq 2 1 h (fun h => cl9z h [(.c 3)] (by kernel_rfl) (fun _ _ => by kernel_rfl))
 (fun h => cl9z h [(.c 6)] (by kernel_rfl) (fun _ _ => by kernel_rfl))

end Go.Proofs.Ytndiilfjeconbaa.Tab
