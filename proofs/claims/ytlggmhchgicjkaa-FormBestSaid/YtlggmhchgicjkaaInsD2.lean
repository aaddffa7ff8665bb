/-
  Ways through the code, part 2.
-/
import Derived.Test.YtlggmhchgicjkaaInsH
namespace Go.Proofs.Ytlggmhchgicjkaa.Tab
open Go.Sim
set_option maxRecDepth 100000
set_option linter.unusedSimpArgs false
set_option maxHeartbeats 4000000

theorem chk2_0 (val : Nat → Int) (h : Holds val [tI 40 2, tI 91 0, tI 51 0, tI 2 1]) : Chk2 val := by_eq 80 2 h (fun h => lcG s_chk2 h [(.c 2)] (by kernel_rfl) (fun _ _ _ => by kernel_rfl))
 (fun h => by_eq 80 4 h (fun h => lcG s_chk2 h [(.c 0)] (by kernel_rfl) (fun _ _ _ => by kernel_rfl))
 (fun h => by_eq 80 3 h (fun h => by_eq 5 0 h (fun h => lcG s_chk2 h [(.c 2)] (by kernel_rfl) (fun _ _ _ => by kernel_rfl))
 (fun h => by_eq 111 0 h (fun h => lcG s_chk2 h [(.a 111)] (by kernel_rfl) (fun _ _ _ => by kernel_rfl))
 (fun h => lcG s_chk2 h [(.a 111)] (by kernel_rfl) (fun _ _ _ => by kernel_rfl))))
 (fun h => lcG s_chk2 h [(.c 0)] (by kernel_rfl) (fun _ _ _ => by kernel_rfl))))

theorem chk2_1 (val : Nat → Int) (h : Holds val [tI 40 4, tN 40 2, tI 91 0, tI 51 0, tI 2 1]) : Chk2 val := by_eq 80 2 h (fun h => lcG s_chk2 h [(.c 0)] (by kernel_rfl) (fun _ _ _ => by kernel_rfl))
 (fun h => by_eq 80 4 h (fun h => lcG s_chk2 h [(.c 2)] (by kernel_rfl) (fun _ _ _ => by kernel_rfl))
 (fun h => by_eq 80 3 h (fun h => by_eq 5 0 h (fun h => lcG s_chk2 h [(.c 2)] (by kernel_rfl) (fun _ _ _ => by kernel_rfl))
 (fun h => by_eq 111 0 h (fun h => lcG s_chk2 h [(.a 111)] (by kernel_rfl) (fun _ _ _ => by kernel_rfl))
 (fun h => lcG s_chk2 h [(.a 111)] (by kernel_rfl) (fun _ _ _ => by kernel_rfl))))
 (fun h => lcG s_chk2 h [(.c 0)] (by kernel_rfl) (fun _ _ _ => by kernel_rfl))))

theorem chk2_2 (val : Nat → Int) (h : Holds val [tI 80 2, tI 40 3, tN 40 4, tN 40 2, tI 91 0, tI 51 0, tI 2 1]) : Chk2 val := by_eq 5 0 h (fun h => lcG s_chk2 h [(.c 2)] (by kernel_rfl) (fun _ _ _ => by kernel_rfl))
 (fun h => by_eq 71 0 h (fun h => lcG s_chk2 h [(.a 71)] (by kernel_rfl) (fun _ _ _ => by kernel_rfl))
 (fun h => lcG s_chk2 h [(.a 71)] (by kernel_rfl) (fun _ _ _ => by kernel_rfl)))

theorem chk2_3 (val : Nat → Int) (h : Holds val [tN 80 2, tI 40 3, tN 40 4, tN 40 2, tI 91 0, tI 51 0, tI 2 1]) : Chk2 val := by_eq 80 4 h (fun h => by_eq 5 0 h (fun h => lcG s_chk2 h [(.c 2)] (by kernel_rfl) (fun _ _ _ => by kernel_rfl))
 (fun h => by_eq 71 0 h (fun h => lcG s_chk2 h [(.a 71)] (by kernel_rfl) (fun _ _ _ => by kernel_rfl))
 (fun h => lcG s_chk2 h [(.a 71)] (by kernel_rfl) (fun _ _ _ => by kernel_rfl))))
 (fun h => by_eq 80 3 h (fun h => lcG s_chk2 h [(.c 2)] (by kernel_rfl) (fun _ _ _ => by kernel_rfl))
 (fun h => by_eq 5 0 h (fun h => lcG s_chk2 h [(.c 2)] (by kernel_rfl) (fun _ _ _ => by kernel_rfl))
 (fun h => by_eq 71 0 h (fun h => lcG s_chk2 h [(.a 71)] (by kernel_rfl) (fun _ _ _ => by kernel_rfl))
 (fun h => lcG s_chk2 h [(.a 71)] (by kernel_rfl) (fun _ _ _ => by kernel_rfl)))))

theorem chk2_4 (val : Nat → Int) (h : Holds val [tN 40 3, tN 40 4, tN 40 2, tI 91 0, tI 51 0, tI 2 1]) : Chk2 val := by_eq 80 2 h (fun h => lcG s_chk2 h [(.c 0)] (by kernel_rfl) (fun _ _ _ => by kernel_rfl))
 (fun h => by_eq 80 4 h (fun h => lcG s_chk2 h [(.c 0)] (by kernel_rfl) (fun _ _ _ => by kernel_rfl))
 (fun h => by_eq 80 3 h (fun h => by_eq 5 0 h (fun h => lcG s_chk2 h [(.c 2)] (by kernel_rfl) (fun _ _ _ => by kernel_rfl))
 (fun h => by_eq 111 0 h (fun h => lcG s_chk2 h [(.a 111)] (by kernel_rfl) (fun _ _ _ => by kernel_rfl))
 (fun h => lcG s_chk2 h [(.a 111)] (by kernel_rfl) (fun _ _ _ => by kernel_rfl))))
 (fun h => lcG s_chk2 h [(.c 0)] (by kernel_rfl) (fun _ _ _ => by kernel_rfl))))

theorem chk2_5 (val : Nat → Int) (h : Holds val [tN 91 0, tI 51 0, tI 2 1]) : Chk2 val := lcG s_chk2 h [(.a 91)] (by kernel_rfl) (fun _ _ _ => by kernel_rfl)

theorem chk2_6 (val : Nat → Int) (h : Holds val [tN 51 0, tI 2 1]) : Chk2 val := lcG s_chk2 h [(.a 51)] (by kernel_rfl) (fun _ _ _ => by kernel_rfl)

theorem chk2_7 (val : Nat → Int) (h : Holds val [tN 2 1]) : Chk2 val := lcG s_chk2 h [(.c 6)] (by kernel_rfl) (fun _ _ _ => by kernel_rfl)

theorem chk2 (val : Nat → Int) : Chk2 val :=
  have h : Holds val [] := holds_nil
  by_eq 2 1 h (fun h => by_eq 51 0 h (fun h => by_eq 91 0 h (fun h => by_eq 40 2 h (fun h => chk2_0 val h)
 (fun h => by_eq 40 4 h (fun h => chk2_1 val h)
 (fun h => by_eq 40 3 h (fun h => by_eq 80 2 h (fun h => chk2_2 val h)
 (fun h => chk2_3 val h))
 (fun h => chk2_4 val h))))
 (fun h => chk2_5 val h))
 (fun h => chk2_6 val h))
 (fun h => chk2_7 val h)


theorem bits4 (val : Nat → Int) (h : Holds val [.ge (.a 3) 0]) : Bits4 val := by_eq 2 1 h (fun h => by_eq 3 0 h (fun h => by_eq 52 0 h (fun h => lcG s_bits4 h [(.c 0), (.c 0)] (by kernel_rfl) (fun _ _ _ => by kernel_rfl))
 (fun h => by_eq 4 1 h (fun h => lcG s_bits4 h [(.wrap .i64 (.mul (.c 8) (.a 52))), (.c 1)] (by kernel_rfl) (fun _ _ _ => by kernel_rfl))
 (fun h => lcG s_bits4 h [(.wrap .i64 (.mul (.c 8) (.a 52))), (.c 0)] (by kernel_rfl) (fun _ _ _ => by kernel_rfl))))
 (fun h => by_eq 4 1 h (fun h => lcG s_bits4 h [(.a 3), (.c 1)] (by kernel_rfl) (fun _ _ _ => by kernel_rfl))
 (fun h => lcG s_bits4 h [(.a 3), (.c 0)] (by kernel_rfl) (fun _ _ _ => by kernel_rfl))))
 (fun h => lcG s_bits4 h [(.c 0), (.c 0)] (by kernel_rfl) (fun _ _ _ => by kernel_rfl))


theorem bits7 (val : Nat → Int) (h : Holds val [.ge (.a 3) 0]) : Bits7 val := by_eq 2 1 h (fun h => by_eq 3 0 h (fun h => by_eq 52 0 h (fun h => lcG s_bits7 h [(.c 0), (.c 0)] (by kernel_rfl) (fun _ _ _ => by kernel_rfl))
 (fun h => by_eq 4 1 h (fun h => lcG s_bits7 h [(.wrap .i64 (.mul (.c 8) (.a 52))), (.c 1)] (by kernel_rfl) (fun _ _ _ => by kernel_rfl))
 (fun h => lcG s_bits7 h [(.wrap .i64 (.mul (.c 8) (.a 52))), (.c 0)] (by kernel_rfl) (fun _ _ _ => by kernel_rfl))))
 (fun h => by_eq 4 1 h (fun h => lcG s_bits7 h [(.a 3), (.c 1)] (by kernel_rfl) (fun _ _ _ => by kernel_rfl))
 (fun h => lcG s_bits7 h [(.a 3), (.c 0)] (by kernel_rfl) (fun _ _ _ => by kernel_rfl))))
 (fun h => lcG s_bits7 h [(.c 0), (.c 0)] (by kernel_rfl) (fun _ _ _ => by kernel_rfl))


theorem bits0 (val : Nat → Int) (h : Holds val [.ge (.a 3) 0, .is (.a 38) 0]) : Bits0 val := by_eq 2 1 h (fun h => by_eq 3 0 h (fun h => lcG s_bits0 h [(.c 0), (.c 0)] (by kernel_rfl) (fun _ _ _ => by kernel_rfl))
 (fun h => by_eq 4 1 h (fun h => lcG s_bits0 h [(.a 3), (.c 1)] (by kernel_rfl) (fun _ _ _ => by kernel_rfl))
 (fun h => lcG s_bits0 h [(.a 3), (.c 0)] (by kernel_rfl) (fun _ _ _ => by kernel_rfl))))
 (fun h => lcG s_bits0 h [(.c 0), (.c 0)] (by kernel_rfl) (fun _ _ _ => by kernel_rfl))


theorem chk6 (val : Nat → Int) : Chk6 val :=
  have h : Holds val [] := holds_nil
  by_eq 2 1 h (fun h => lcG s_chk6 h [(.c 3)] (by kernel_rfl) (fun _ _ _ => by kernel_rfl))
 (fun h => lcG s_chk6 h [(.c 6)] (by kernel_rfl) (fun _ _ _ => by kernel_rfl))


theorem chk9 (val : Nat → Int) : Chk9 val :=
  have h : Holds val [] := holds_nil
  by_eq 2 1 h (fun h => lcG s_chk9 h [(.c 3)] (by kernel_rfl) (fun _ _ _ => by kernel_rfl))
 (fun h => lcG s_chk9 h [(.c 6)] (by kernel_rfl) (fun _ _ _ => by kernel_rfl))

end Go.Proofs.Ytlggmhchgicjkaa.Tab
