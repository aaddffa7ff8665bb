/-
  Ways through the code, part 3.
-/
import Derived.Test.YtndiilfjeconbaaInsH
namespace Go.Proofs.Ytndiilfjeconbaa.Tab
open Go.Sim
set_option maxRecDepth 100000
set_option linter.unusedSimpArgs false
set_option maxHeartbeats 4000000

theorem checkQ3z_0 (val : Nat → Int) (h : Holds val [tI 80 2, tI 40 2, tI 131 0, tI 91 0, tI 51 0, tI 2 1]) : CheckQ3z val := by_eq 120 2 h (fun h => cl3z h [(.c 2)] (by kernel_rfl) (fun _ _ => by kernel_rfl))
 (fun h => by_eq 120 4 h (fun h => cl3z h [(.c 2)] (by kernel_rfl) (fun _ _ => by kernel_rfl))
 (fun h => by_eq 120 3 h (fun h => cl3z h [(.c 2)] (by kernel_rfl) (fun _ _ => by kernel_rfl))
 (fun h => cl3z h [(.c 2)] (by kernel_rfl) (fun _ _ => by kernel_rfl))))

theorem checkQ3z_1 (val : Nat → Int) (h : Holds val [tI 80 4, tN 80 2, tI 40 2, tI 131 0, tI 91 0, tI 51 0, tI 2 1]) : CheckQ3z val := by_eq 120 2 h (fun h => cl3z h [(.c 2)] (by kernel_rfl) (fun _ _ => by kernel_rfl))
 (fun h => by_eq 120 4 h (fun h => cl3z h [(.c 2)] (by kernel_rfl) (fun _ _ => by kernel_rfl))
 (fun h => by_eq 120 3 h (fun h => cl3z h [(.c 2)] (by kernel_rfl) (fun _ _ => by kernel_rfl))
 (fun h => cl3z h [(.c 0)] (by kernel_rfl) (fun _ _ => by kernel_rfl))))

theorem checkQ3z_2 (val : Nat → Int) (h : Holds val [tN 80 4, tN 80 2, tI 40 2, tI 131 0, tI 91 0, tI 51 0, tI 2 1]) : CheckQ3z val := by_eq 80 3 h (fun h => by_eq 120 2 h (fun h => cl3z h [(.c 2)] (by kernel_rfl) (fun _ _ => by kernel_rfl))
 (fun h => by_eq 120 4 h (fun h => cl3z h [(.c 2)] (by kernel_rfl) (fun _ _ => by kernel_rfl))
 (fun h => by_eq 120 3 h (fun h => cl3z h [(.c 2)] (by kernel_rfl) (fun _ _ => by kernel_rfl))
 (fun h => cl3z h [(.c 2)] (by kernel_rfl) (fun _ _ => by kernel_rfl)))))
 (fun h => by_eq 120 2 h (fun h => cl3z h [(.c 2)] (by kernel_rfl) (fun _ _ => by kernel_rfl))
 (fun h => by_eq 120 4 h (fun h => cl3z h [(.c 0)] (by kernel_rfl) (fun _ _ => by kernel_rfl))
 (fun h => by_eq 120 3 h (fun h => cl3z h [(.c 2)] (by kernel_rfl) (fun _ _ => by kernel_rfl))
 (fun h => cl3z h [(.c 0)] (by kernel_rfl) (fun _ _ => by kernel_rfl)))))

theorem checkQ3z_3 (val : Nat → Int) (h : Holds val [tI 80 2, tI 40 4, tN 40 2, tI 131 0, tI 91 0, tI 51 0, tI 2 1]) : CheckQ3z val := by_eq 120 2 h (fun h => cl3z h [(.c 2)] (by kernel_rfl) (fun _ _ => by kernel_rfl))
 (fun h => by_eq 120 4 h (fun h => cl3z h [(.c 2)] (by kernel_rfl) (fun _ _ => by kernel_rfl))
 (fun h => by_eq 120 3 h (fun h => cl3z h [(.c 2)] (by kernel_rfl) (fun _ _ => by kernel_rfl))
 (fun h => cl3z h [(.c 0)] (by kernel_rfl) (fun _ _ => by kernel_rfl))))

theorem checkQ3z_4 (val : Nat → Int) (h : Holds val [tI 80 4, tN 80 2, tI 40 4, tN 40 2, tI 131 0, tI 91 0, tI 51 0, tI 2 1]) : CheckQ3z val := by_eq 120 2 h (fun h => cl3z h [(.c 2)] (by kernel_rfl) (fun _ _ => by kernel_rfl))
 (fun h => by_eq 120 4 h (fun h => cl3z h [(.c 2)] (by kernel_rfl) (fun _ _ => by kernel_rfl))
 (fun h => by_eq 120 3 h (fun h => cl3z h [(.c 2)] (by kernel_rfl) (fun _ _ => by kernel_rfl))
 (fun h => cl3z h [(.c 2)] (by kernel_rfl) (fun _ _ => by kernel_rfl))))

theorem checkQ3z_5 (val : Nat → Int) (h : Holds val [tN 80 4, tN 80 2, tI 40 4, tN 40 2, tI 131 0, tI 91 0, tI 51 0, tI 2 1]) : CheckQ3z val := by_eq 80 3 h (fun h => by_eq 120 2 h (fun h => cl3z h [(.c 2)] (by kernel_rfl) (fun _ _ => by kernel_rfl))
 (fun h => by_eq 120 4 h (fun h => cl3z h [(.c 2)] (by kernel_rfl) (fun _ _ => by kernel_rfl))
 (fun h => by_eq 120 3 h (fun h => cl3z h [(.c 2)] (by kernel_rfl) (fun _ _ => by kernel_rfl))
 (fun h => cl3z h [(.c 2)] (by kernel_rfl) (fun _ _ => by kernel_rfl)))))
 (fun h => by_eq 120 2 h (fun h => cl3z h [(.c 0)] (by kernel_rfl) (fun _ _ => by kernel_rfl))
 (fun h => by_eq 120 4 h (fun h => cl3z h [(.c 2)] (by kernel_rfl) (fun _ _ => by kernel_rfl))
 (fun h => by_eq 120 3 h (fun h => cl3z h [(.c 2)] (by kernel_rfl) (fun _ _ => by kernel_rfl))
 (fun h => cl3z h [(.c 0)] (by kernel_rfl) (fun _ _ => by kernel_rfl)))))

theorem checkQ3z_6 (val : Nat → Int) (h : Holds val [tI 80 2, tI 40 3, tN 40 4, tN 40 2, tI 131 0, tI 91 0, tI 51 0, tI 2 1]) : CheckQ3z val := by_eq 120 2 h (fun h => cl3z h [(.c 2)] (by kernel_rfl) (fun _ _ => by kernel_rfl))
 (fun h => by_eq 120 4 h (fun h => cl3z h [(.c 2)] (by kernel_rfl) (fun _ _ => by kernel_rfl))
 (fun h => by_eq 120 3 h (fun h => cl3z h [(.c 2)] (by kernel_rfl) (fun _ _ => by kernel_rfl))
 (fun h => cl3z h [(.c 2)] (by kernel_rfl) (fun _ _ => by kernel_rfl))))

theorem checkQ3z_7 (val : Nat → Int) (h : Holds val [tI 80 4, tN 80 2, tI 40 3, tN 40 4, tN 40 2, tI 131 0, tI 91 0, tI 51 0, tI 2 1]) : CheckQ3z val := by_eq 120 2 h (fun h => cl3z h [(.c 2)] (by kernel_rfl) (fun _ _ => by kernel_rfl))
 (fun h => by_eq 120 4 h (fun h => cl3z h [(.c 2)] (by kernel_rfl) (fun _ _ => by kernel_rfl))
 (fun h => by_eq 120 3 h (fun h => cl3z h [(.c 2)] (by kernel_rfl) (fun _ _ => by kernel_rfl))
 (fun h => cl3z h [(.c 2)] (by kernel_rfl) (fun _ _ => by kernel_rfl))))

theorem checkQ3z_8 (val : Nat → Int) (h : Holds val [tN 80 4, tN 80 2, tI 40 3, tN 40 4, tN 40 2, tI 131 0, tI 91 0, tI 51 0, tI 2 1]) : CheckQ3z val := by_eq 80 3 h (fun h => by_eq 120 2 h (fun h => cl3z h [(.c 2)] (by kernel_rfl) (fun _ _ => by kernel_rfl))
 (fun h => by_eq 120 4 h (fun h => cl3z h [(.c 2)] (by kernel_rfl) (fun _ _ => by kernel_rfl))
 (fun h => by_eq 120 3 h (fun h => cl3z h [(.c 2)] (by kernel_rfl) (fun _ _ => by kernel_rfl))
 (fun h => cl3z h [(.c 2)] (by kernel_rfl) (fun _ _ => by kernel_rfl)))))
 (fun h => by_eq 120 2 h (fun h => cl3z h [(.c 2)] (by kernel_rfl) (fun _ _ => by kernel_rfl))
 (fun h => by_eq 120 4 h (fun h => cl3z h [(.c 2)] (by kernel_rfl) (fun _ _ => by kernel_rfl))
 (fun h => by_eq 120 3 h (fun h => cl3z h [(.c 2)] (by kernel_rfl) (fun _ _ => by kernel_rfl))
 (fun h => cl3z h [(.c 2)] (by kernel_rfl) (fun _ _ => by kernel_rfl)))))

theorem checkQ3z_9 (val : Nat → Int) (h : Holds val [tI 80 2, tN 40 3, tN 40 4, tN 40 2, tI 131 0, tI 91 0, tI 51 0, tI 2 1]) : CheckQ3z val := by_eq 120 2 h (fun h => cl3z h [(.c 2)] (by kernel_rfl) (fun _ _ => by kernel_rfl))
 (fun h => by_eq 120 4 h (fun h => cl3z h [(.c 0)] (by kernel_rfl) (fun _ _ => by kernel_rfl))
 (fun h => by_eq 120 3 h (fun h => cl3z h [(.c 2)] (by kernel_rfl) (fun _ _ => by kernel_rfl))
 (fun h => cl3z h [(.c 0)] (by kernel_rfl) (fun _ _ => by kernel_rfl))))

theorem checkQ3z_10 (val : Nat → Int) (h : Holds val [tI 80 4, tN 80 2, tN 40 3, tN 40 4, tN 40 2, tI 131 0, tI 91 0, tI 51 0, tI 2 1]) : CheckQ3z val := by_eq 120 2 h (fun h => cl3z h [(.c 0)] (by kernel_rfl) (fun _ _ => by kernel_rfl))
 (fun h => by_eq 120 4 h (fun h => cl3z h [(.c 2)] (by kernel_rfl) (fun _ _ => by kernel_rfl))
 (fun h => by_eq 120 3 h (fun h => cl3z h [(.c 2)] (by kernel_rfl) (fun _ _ => by kernel_rfl))
 (fun h => cl3z h [(.c 0)] (by kernel_rfl) (fun _ _ => by kernel_rfl))))

theorem checkQ3z_11 (val : Nat → Int) (h : Holds val [tN 80 4, tN 80 2, tN 40 3, tN 40 4, tN 40 2, tI 131 0, tI 91 0, tI 51 0, tI 2 1]) : CheckQ3z val := by_eq 80 3 h (fun h => by_eq 120 2 h (fun h => cl3z h [(.c 2)] (by kernel_rfl) (fun _ _ => by kernel_rfl))
 (fun h => by_eq 120 4 h (fun h => cl3z h [(.c 2)] (by kernel_rfl) (fun _ _ => by kernel_rfl))
 (fun h => by_eq 120 3 h (fun h => cl3z h [(.c 2)] (by kernel_rfl) (fun _ _ => by kernel_rfl))
 (fun h => cl3z h [(.c 2)] (by kernel_rfl) (fun _ _ => by kernel_rfl)))))
 (fun h => by_eq 120 2 h (fun h => cl3z h [(.c 0)] (by kernel_rfl) (fun _ _ => by kernel_rfl))
 (fun h => by_eq 120 4 h (fun h => cl3z h [(.c 0)] (by kernel_rfl) (fun _ _ => by kernel_rfl))
 (fun h => by_eq 120 3 h (fun h => cl3z h [(.c 2)] (by kernel_rfl) (fun _ _ => by kernel_rfl))
 (fun h => cl3z h [(.c 0)] (by kernel_rfl) (fun _ _ => by kernel_rfl)))))

theorem checkQ3z_12 (val : Nat → Int) (h : Holds val [tN 131 0, tI 91 0, tI 51 0, tI 2 1]) : CheckQ3z val := cl3z h [(.a 131)] (by kernel_rfl) (fun _ _ => by kernel_rfl)

theorem checkQ3z_13 (val : Nat → Int) (h : Holds val [tN 91 0, tI 51 0, tI 2 1]) : CheckQ3z val := cl3z h [(.a 91)] (by kernel_rfl) (fun _ _ => by kernel_rfl)

theorem checkQ3z_14 (val : Nat → Int) (h : Holds val [tN 51 0, tI 2 1]) : CheckQ3z val := cl3z h [(.a 51)] (by kernel_rfl) (fun _ _ => by kernel_rfl)

theorem checkQ3z_15 (val : Nat → Int) (h : Holds val [tN 2 1]) : CheckQ3z val := cl3z h [(.c 6)] (by kernel_rfl) (fun _ _ => by kernel_rfl)

theorem checkQ3z (val : Nat → Int) : CheckQ3z val :=
  have h : Holds val [] := holds_nil
  by_eq 2 1 h (fun h => by_eq 51 0 h (fun h => by_eq 91 0 h (fun h => by_eq 131 0 h (fun h => by_eq 40 2 h (fun h => by_eq 80 2 h (fun h => checkQ3z_0 val h)
 (fun h => by_eq 80 4 h (fun h => checkQ3z_1 val h)
 (fun h => checkQ3z_2 val h)))
 (fun h => by_eq 40 4 h (fun h => by_eq 80 2 h (fun h => checkQ3z_3 val h)
 (fun h => by_eq 80 4 h (fun h => checkQ3z_4 val h)
 (fun h => checkQ3z_5 val h)))
 (fun h => by_eq 40 3 h (fun h => by_eq 80 2 h (fun h => checkQ3z_6 val h)
 (fun h => by_eq 80 4 h (fun h => checkQ3z_7 val h)
 (fun h => checkQ3z_8 val h)))
 (fun h => by_eq 80 2 h (fun h => checkQ3z_9 val h)
 (fun h => by_eq 80 4 h (fun h => checkQ3z_10 val h)
 (fun h => checkQ3z_11 val h))))))
 (fun h => checkQ3z_12 val h))
 (fun h => checkQ3z_13 val h))
 (fun h => checkQ3z_14 val h))
 (fun h => checkQ3z_15 val h)

end Go.Proofs.Ytndiilfjeconbaa.Tab
