/-
  Ways through the code, part 3.
-/
import Derived.Test.YtlggmhchgicjkaaInsH
namespace Go.Proofs.Ytlggmhchgicjkaa.Tab
open Go.Sim
set_option maxRecDepth 100000
set_option linter.unusedSimpArgs false
set_option maxHeartbeats 4000000

theorem name_0 (val : Nat → Int) (h : Holds val [tI 0 1, .le (.a 0) 322, .ge (.a 0) 1]) : Name val := lcG s_name h [(.c 1), (.c 0), (.c 1)] (by kernel_rfl) (fun _ _ _ => by kernel_rfl)

theorem name_1 (val : Nat → Int) (h : Holds val [tI 0 2, tN 0 1, .le (.a 0) 322, .ge (.a 0) 1]) : Name val := lcG s_name h [(.c 1), (.c 0), (.c 1)] (by kernel_rfl) (fun _ _ _ => by kernel_rfl)

theorem name_2 (val : Nat → Int) (h : Holds val [tI 0 3, tN 0 2, tN 0 1, .le (.a 0) 322, .ge (.a 0) 1]) : Name val := lcG s_name h [(.c 1), (.c 0), (.c 1)] (by kernel_rfl) (fun _ _ _ => by kernel_rfl)

theorem name_3 (val : Nat → Int) (h : Holds val [tI 0 4, tN 0 3, tN 0 2, tN 0 1, .le (.a 0) 322, .ge (.a 0) 1]) : Name val := lcG s_name h [(.c 1), (.c 0), (.c 1)] (by kernel_rfl) (fun _ _ _ => by kernel_rfl)

theorem name_4 (val : Nat → Int) (h : Holds val [tI 0 5, tN 0 4, tN 0 3, tN 0 2, tN 0 1, .le (.a 0) 322, .ge (.a 0) 1]) : Name val := lcG s_name h [(.c 1), (.c 0), (.c 1)] (by kernel_rfl) (fun _ _ _ => by kernel_rfl)

theorem name_5 (val : Nat → Int) (h : Holds val [tI 0 6, tN 0 5, tN 0 4, tN 0 3, tN 0 2, tN 0 1, .le (.a 0) 322, .ge (.a 0) 1]) : Name val := lcG s_name h [(.c 1), (.c 0), (.c 1)] (by kernel_rfl) (fun _ _ _ => by kernel_rfl)

theorem name_6 (val : Nat → Int) (h : Holds val [tN 0 6, tN 0 5, tN 0 4, tN 0 3, tN 0 2, tN 0 1, .le (.a 0) 322, .ge (.a 0) 1]) : Name val := by_eq 0 7 h (fun h => lcG s_name h [(.c 1), (.c 0), (.c 1)] (by kernel_rfl) (fun _ _ _ => by kernel_rfl))
 (fun h => by_eq 0 8 h (fun h => lcG s_name h [(.c 1), (.c 0), (.c 1)] (by kernel_rfl) (fun _ _ _ => by kernel_rfl))
 (fun h => by_eq 0 9 h (fun h => lcG s_name h [(.c 1), (.c 0), (.c 1)] (by kernel_rfl) (fun _ _ _ => by kernel_rfl))
 (fun h => by_eq 0 10 h (fun h => lcG s_name h [(.c 1), (.c 0), (.c 1)] (by kernel_rfl) (fun _ _ _ => by kernel_rfl))
 (fun h => by_eq 0 16 h (fun h => lcG s_name h [(.c 1), (.c 0), (.c 1)] (by kernel_rfl) (fun _ _ _ => by kernel_rfl))
 (fun h => by_eq 0 48 h (fun h => lcG s_name h [(.c 1), (.c 64), (.c 1)] (by kernel_rfl) (fun _ _ _ => by kernel_rfl))
 (fun h => by_eq 0 51 h (fun h => lcG s_name h [(.c 1), (.c 16), (.c 0)] (by kernel_rfl) (fun _ _ _ => by kernel_rfl))
 (fun h => lcG s_name h [(.c 1), (.c 8), (.c 0)] (by kernel_rfl) (fun _ _ _ => by kernel_rfl))))))))

theorem name_7 (val : Nat → Int) (h : Holds val [.ge (.a 0) 323, .ge (.a 0) 1]) : Name val := lcG s_name h [(.c 0), (.c 0), (.c 0)] (by kernel_rfl) (fun _ _ _ => by kernel_rfl)

theorem name_8 (val : Nat → Int) (h : Holds val [.le (.a 0) 0]) : Name val := lcG s_name h [(.c 0), (.c 0), (.c 0)] (by kernel_rfl) (fun _ _ _ => by kernel_rfl)

theorem name (val : Nat → Int) : Name val :=
  have h : Holds val [] := holds_nil
  by_way (.le (.c 1) (.a 0)) (.ge (.a 0) 1) (.le (.a 0) 0) rfl rfl h (fun h => by_way (.le (.a 0) (.c 322)) (.le (.a 0) 322) (.ge (.a 0) 323) rfl rfl h (fun h => by_eq 0 1 h (fun h => name_0 val h)
 (fun h => by_eq 0 2 h (fun h => name_1 val h)
 (fun h => by_eq 0 3 h (fun h => name_2 val h)
 (fun h => by_eq 0 4 h (fun h => name_3 val h)
 (fun h => by_eq 0 5 h (fun h => name_4 val h)
 (fun h => by_eq 0 6 h (fun h => name_5 val h)
 (fun h => name_6 val h)))))))
 (fun h => name_7 val h))
 (fun h => name_8 val h)


theorem chk1 (val : Nat → Int) : Chk1 val :=
  have h : Holds val [] := holds_nil
  by_eq 2 1 h (fun h => by_eq 51 0 h (fun h => by_eq 40 2 h (fun h => lcG s_chk1 h [(.c 0)] (by kernel_rfl) (fun _ _ _ => by kernel_rfl))
 (fun h => by_eq 40 4 h (fun h => lcG s_chk1 h [(.c 0)] (by kernel_rfl) (fun _ _ _ => by kernel_rfl))
 (fun h => by_eq 40 3 h (fun h => by_eq 5 0 h (fun h => lcG s_chk1 h [(.c 2)] (by kernel_rfl) (fun _ _ _ => by kernel_rfl))
 (fun h => by_eq 71 0 h (fun h => lcG s_chk1 h [(.a 71)] (by kernel_rfl) (fun _ _ _ => by kernel_rfl))
 (fun h => lcG s_chk1 h [(.a 71)] (by kernel_rfl) (fun _ _ _ => by kernel_rfl))))
 (fun h => lcG s_chk1 h [(.c 0)] (by kernel_rfl) (fun _ _ _ => by kernel_rfl)))))
 (fun h => lcG s_chk1 h [(.a 51)] (by kernel_rfl) (fun _ _ _ => by kernel_rfl)))
 (fun h => lcG s_chk1 h [(.c 6)] (by kernel_rfl) (fun _ _ _ => by kernel_rfl))


theorem bits1 (val : Nat → Int) (h : Holds val [.ge (.a 3) 0]) : Bits1 val := by_eq 2 1 h (fun h => by_eq 3 0 h (fun h => by_eq 52 0 h (fun h => lcG s_bits1 h [(.c 0), (.c 0)] (by kernel_rfl) (fun _ _ _ => by kernel_rfl))
 (fun h => by_eq 4 1 h (fun h => lcG s_bits1 h [(.wrap .i64 (.mul (.c 8) (.a 52))), (.c 1)] (by kernel_rfl) (fun _ _ _ => by kernel_rfl))
 (fun h => lcG s_bits1 h [(.wrap .i64 (.mul (.c 8) (.a 52))), (.c 0)] (by kernel_rfl) (fun _ _ _ => by kernel_rfl))))
 (fun h => by_eq 4 1 h (fun h => lcG s_bits1 h [(.a 3), (.c 1)] (by kernel_rfl) (fun _ _ _ => by kernel_rfl))
 (fun h => lcG s_bits1 h [(.a 3), (.c 0)] (by kernel_rfl) (fun _ _ _ => by kernel_rfl))))
 (fun h => lcG s_bits1 h [(.c 0), (.c 0)] (by kernel_rfl) (fun _ _ _ => by kernel_rfl))


theorem bits3 (val : Nat → Int) (h : Holds val [.ge (.a 3) 0]) : Bits3 val := by_eq 2 1 h (fun h => by_eq 3 0 h (fun h => by_eq 52 0 h (fun h => lcG s_bits3 h [(.c 0), (.c 0)] (by kernel_rfl) (fun _ _ _ => by kernel_rfl))
 (fun h => by_eq 4 1 h (fun h => lcG s_bits3 h [(.wrap .i64 (.mul (.c 8) (.a 52))), (.c 1)] (by kernel_rfl) (fun _ _ _ => by kernel_rfl))
 (fun h => lcG s_bits3 h [(.wrap .i64 (.mul (.c 8) (.a 52))), (.c 0)] (by kernel_rfl) (fun _ _ _ => by kernel_rfl))))
 (fun h => by_eq 4 1 h (fun h => lcG s_bits3 h [(.a 3), (.c 1)] (by kernel_rfl) (fun _ _ _ => by kernel_rfl))
 (fun h => lcG s_bits3 h [(.a 3), (.c 0)] (by kernel_rfl) (fun _ _ _ => by kernel_rfl))))
 (fun h => lcG s_bits3 h [(.c 0), (.c 0)] (by kernel_rfl) (fun _ _ _ => by kernel_rfl))


theorem bits6 (val : Nat → Int) (h : Holds val [.ge (.a 3) 0]) : Bits6 val := by_eq 2 1 h (fun h => by_eq 3 0 h (fun h => by_eq 52 0 h (fun h => lcG s_bits6 h [(.c 0), (.c 0)] (by kernel_rfl) (fun _ _ _ => by kernel_rfl))
 (fun h => by_eq 4 1 h (fun h => lcG s_bits6 h [(.wrap .i64 (.mul (.c 8) (.a 52))), (.c 1)] (by kernel_rfl) (fun _ _ _ => by kernel_rfl))
 (fun h => lcG s_bits6 h [(.wrap .i64 (.mul (.c 8) (.a 52))), (.c 0)] (by kernel_rfl) (fun _ _ _ => by kernel_rfl))))
 (fun h => by_eq 4 1 h (fun h => lcG s_bits6 h [(.a 3), (.c 1)] (by kernel_rfl) (fun _ _ _ => by kernel_rfl))
 (fun h => lcG s_bits6 h [(.a 3), (.c 0)] (by kernel_rfl) (fun _ _ _ => by kernel_rfl))))
 (fun h => lcG s_bits6 h [(.c 0), (.c 0)] (by kernel_rfl) (fun _ _ _ => by kernel_rfl))


theorem bits9 (val : Nat → Int) (h : Holds val [.ge (.a 3) 0]) : Bits9 val := by_eq 2 1 h (fun h => by_eq 3 0 h (fun h => by_eq 52 0 h (fun h => lcG s_bits9 h [(.c 0), (.c 0)] (by kernel_rfl) (fun _ _ _ => by kernel_rfl))
 (fun h => by_eq 4 1 h (fun h => lcG s_bits9 h [(.wrap .i64 (.mul (.c 8) (.a 52))), (.c 1)] (by kernel_rfl) (fun _ _ _ => by kernel_rfl))
 (fun h => lcG s_bits9 h [(.wrap .i64 (.mul (.c 8) (.a 52))), (.c 0)] (by kernel_rfl) (fun _ _ _ => by kernel_rfl))))
 (fun h => by_eq 4 1 h (fun h => lcG s_bits9 h [(.a 3), (.c 1)] (by kernel_rfl) (fun _ _ _ => by kernel_rfl))
 (fun h => lcG s_bits9 h [(.a 3), (.c 0)] (by kernel_rfl) (fun _ _ _ => by kernel_rfl))))
 (fun h => lcG s_bits9 h [(.c 0), (.c 0)] (by kernel_rfl) (fun _ _ _ => by kernel_rfl))


theorem chk7 (val : Nat → Int) : Chk7 val :=
  have h : Holds val [] := holds_nil
  by_eq 2 1 h (fun h => lcG s_chk7 h [(.c 3)] (by kernel_rfl) (fun _ _ _ => by kernel_rfl))
 (fun h => lcG s_chk7 h [(.c 6)] (by kernel_rfl) (fun _ _ _ => by kernel_rfl))

end Go.Proofs.Ytlggmhchgicjkaa.Tab
