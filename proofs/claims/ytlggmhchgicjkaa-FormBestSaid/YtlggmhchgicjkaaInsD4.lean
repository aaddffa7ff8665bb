/-
  Ways through the code, part 4.
-/
import Derived.Test.YtlggmhchgicjkaaInsH
namespace Go.Proofs.Ytlggmhchgicjkaa.Tab
open Go.Sim
set_option maxRecDepth 100000
set_option linter.unusedSimpArgs false
set_option maxHeartbeats 4000000

theorem immtrue_0 (val : Nat → Int) (h : Holds val [tI 1 8]) : Immtrue val := by_way (.eq (.a 0) (.wrap .i64 (.shr (.wrap .u64 (.shl (.wrap .u64 (.a 0)) 56)) 56))) (.at (.eq (.a 0) (.wrap .i64 (.shr (.wrap .u64 (.shl (.wrap .u64 (.a 0)) 56)) 56))) true) (.at (.eq (.a 0) (.wrap .i64 (.shr (.wrap .u64 (.shl (.wrap .u64 (.a 0)) 56)) 56))) false) rfl rfl h (fun h => lcG s_immtrue h [(.c 0), (.shr (.wrap .i64 (.wrap .u64 (.shl (.wrap .u64 (.a 0)) 56))) 56)] (by kernel_rfl) (fun _ _ _ => by kernel_rfl))
 (fun h => by_way (.eq (.a 0) (.shr (.wrap .i64 (.wrap .u64 (.shl (.wrap .u64 (.a 0)) 56))) 56)) (.at (.eq (.a 0) (.shr (.wrap .i64 (.wrap .u64 (.shl (.wrap .u64 (.a 0)) 56))) 56)) true) (.at (.eq (.a 0) (.shr (.wrap .i64 (.wrap .u64 (.shl (.wrap .u64 (.a 0)) 56))) 56)) false) rfl rfl h (fun h => lcG s_immtrue h [(.c 0), (.shr (.wrap .i64 (.wrap .u64 (.shl (.wrap .u64 (.a 0)) 56))) 56)] (by kernel_rfl) (fun _ _ _ => by kernel_rfl))
 (fun h => lcG s_immtrue h [(.c 5), (.c 0)] (by kernel_rfl) (fun _ _ _ => by kernel_rfl)))

theorem immtrue_1 (val : Nat → Int) (h : Holds val [tI 1 16, tN 1 8]) : Immtrue val := by_way (.eq (.a 0) (.wrap .i64 (.shr (.wrap .u64 (.shl (.wrap .u64 (.a 0)) 48)) 48))) (.at (.eq (.a 0) (.wrap .i64 (.shr (.wrap .u64 (.shl (.wrap .u64 (.a 0)) 48)) 48))) true) (.at (.eq (.a 0) (.wrap .i64 (.shr (.wrap .u64 (.shl (.wrap .u64 (.a 0)) 48)) 48))) false) rfl rfl h (fun h => lcG s_immtrue h [(.c 0), (.shr (.wrap .i64 (.wrap .u64 (.shl (.wrap .u64 (.a 0)) 48))) 48)] (by kernel_rfl) (fun _ _ _ => by kernel_rfl))
 (fun h => by_way (.eq (.a 0) (.shr (.wrap .i64 (.wrap .u64 (.shl (.wrap .u64 (.a 0)) 48))) 48)) (.at (.eq (.a 0) (.shr (.wrap .i64 (.wrap .u64 (.shl (.wrap .u64 (.a 0)) 48))) 48)) true) (.at (.eq (.a 0) (.shr (.wrap .i64 (.wrap .u64 (.shl (.wrap .u64 (.a 0)) 48))) 48)) false) rfl rfl h (fun h => lcG s_immtrue h [(.c 0), (.shr (.wrap .i64 (.wrap .u64 (.shl (.wrap .u64 (.a 0)) 48))) 48)] (by kernel_rfl) (fun _ _ _ => by kernel_rfl))
 (fun h => lcG s_immtrue h [(.c 5), (.c 0)] (by kernel_rfl) (fun _ _ _ => by kernel_rfl)))

theorem immtrue_2 (val : Nat → Int) (h : Holds val [tN 1 16, tN 1 8]) : Immtrue val := by_eq 1 32 h (fun h => by_way (.eq (.a 0) (.wrap .i64 (.shr (.wrap .u64 (.shl (.wrap .u64 (.a 0)) 32)) 32))) (.at (.eq (.a 0) (.wrap .i64 (.shr (.wrap .u64 (.shl (.wrap .u64 (.a 0)) 32)) 32))) true) (.at (.eq (.a 0) (.wrap .i64 (.shr (.wrap .u64 (.shl (.wrap .u64 (.a 0)) 32)) 32))) false) rfl rfl h (fun h => lcG s_immtrue h [(.c 0), (.shr (.wrap .i64 (.wrap .u64 (.shl (.wrap .u64 (.a 0)) 32))) 32)] (by kernel_rfl) (fun _ _ _ => by kernel_rfl))
 (fun h => by_way (.eq (.a 0) (.shr (.wrap .i64 (.wrap .u64 (.shl (.wrap .u64 (.a 0)) 32))) 32)) (.at (.eq (.a 0) (.shr (.wrap .i64 (.wrap .u64 (.shl (.wrap .u64 (.a 0)) 32))) 32)) true) (.at (.eq (.a 0) (.shr (.wrap .i64 (.wrap .u64 (.shl (.wrap .u64 (.a 0)) 32))) 32)) false) rfl rfl h (fun h => lcG s_immtrue h [(.c 0), (.shr (.wrap .i64 (.wrap .u64 (.shl (.wrap .u64 (.a 0)) 32))) 32)] (by kernel_rfl) (fun _ _ _ => by kernel_rfl))
 (fun h => lcG s_immtrue h [(.c 5), (.c 0)] (by kernel_rfl) (fun _ _ _ => by kernel_rfl))))
 (fun h => by_eq 1 64 h (fun h => by_way (.eq (.a 0) (.wrap .i64 (.shr (.wrap .u64 (.shl (.wrap .u64 (.a 0)) 0)) 0))) (.at (.eq (.a 0) (.wrap .i64 (.shr (.wrap .u64 (.shl (.wrap .u64 (.a 0)) 0)) 0))) true) (.at (.eq (.a 0) (.wrap .i64 (.shr (.wrap .u64 (.shl (.wrap .u64 (.a 0)) 0)) 0))) false) rfl rfl h (fun h => lcG s_immtrue h [(.c 0), (.shr (.wrap .i64 (.wrap .u64 (.shl (.wrap .u64 (.a 0)) 0))) 0)] (by kernel_rfl) (fun _ _ _ => by kernel_rfl))
 (fun h => by_way (.eq (.a 0) (.shr (.wrap .i64 (.wrap .u64 (.shl (.wrap .u64 (.a 0)) 0))) 0)) (.at (.eq (.a 0) (.shr (.wrap .i64 (.wrap .u64 (.shl (.wrap .u64 (.a 0)) 0))) 0)) true) (.at (.eq (.a 0) (.shr (.wrap .i64 (.wrap .u64 (.shl (.wrap .u64 (.a 0)) 0))) 0)) false) rfl rfl h (fun h => lcG s_immtrue h [(.c 0), (.shr (.wrap .i64 (.wrap .u64 (.shl (.wrap .u64 (.a 0)) 0))) 0)] (by kernel_rfl) (fun _ _ _ => by kernel_rfl))
 (fun h => lcG s_immtrue h [(.c 5), (.c 0)] (by kernel_rfl) (fun _ _ _ => by kernel_rfl))))
 (fun h => lcG s_immtrue h [(.c 2), (.c 0)] (by kernel_rfl) (fun _ _ _ => by kernel_rfl)))

theorem immtrue (val : Nat → Int) : Immtrue val :=
  have h : Holds val [] := holds_nil
  by_eq 1 8 h (fun h => immtrue_0 val h)
 (fun h => by_eq 1 16 h (fun h => immtrue_1 val h)
 (fun h => immtrue_2 val h))

theorem immfalse_0 (val : Nat → Int) (h : Holds val [tI 1 8]) : Immfalse val := by_way (.eq (.a 0) (.wrap .i64 (.shr (.wrap .u64 (.shl (.wrap .u64 (.a 0)) 56)) 56))) (.at (.eq (.a 0) (.wrap .i64 (.shr (.wrap .u64 (.shl (.wrap .u64 (.a 0)) 56)) 56))) true) (.at (.eq (.a 0) (.wrap .i64 (.shr (.wrap .u64 (.shl (.wrap .u64 (.a 0)) 56)) 56))) false) rfl rfl h (fun h => lcG s_immfalse h [(.c 0), (.wrap .i64 (.shr (.wrap .u64 (.shl (.wrap .u64 (.a 0)) 56)) 56))] (by kernel_rfl) (fun _ _ _ => by kernel_rfl))
 (fun h => by_way (.eq (.a 0) (.shr (.wrap .i64 (.wrap .u64 (.shl (.wrap .u64 (.a 0)) 56))) 56)) (.at (.eq (.a 0) (.shr (.wrap .i64 (.wrap .u64 (.shl (.wrap .u64 (.a 0)) 56))) 56)) true) (.at (.eq (.a 0) (.shr (.wrap .i64 (.wrap .u64 (.shl (.wrap .u64 (.a 0)) 56))) 56)) false) rfl rfl h (fun h => lcG s_immfalse h [(.c 0), (.wrap .i64 (.shr (.wrap .u64 (.shl (.wrap .u64 (.a 0)) 56)) 56))] (by kernel_rfl) (fun _ _ _ => by kernel_rfl))
 (fun h => lcG s_immfalse h [(.c 5), (.c 0)] (by kernel_rfl) (fun _ _ _ => by kernel_rfl)))

theorem immfalse_1 (val : Nat → Int) (h : Holds val [tI 1 16, tN 1 8]) : Immfalse val := by_way (.eq (.a 0) (.wrap .i64 (.shr (.wrap .u64 (.shl (.wrap .u64 (.a 0)) 48)) 48))) (.at (.eq (.a 0) (.wrap .i64 (.shr (.wrap .u64 (.shl (.wrap .u64 (.a 0)) 48)) 48))) true) (.at (.eq (.a 0) (.wrap .i64 (.shr (.wrap .u64 (.shl (.wrap .u64 (.a 0)) 48)) 48))) false) rfl rfl h (fun h => lcG s_immfalse h [(.c 0), (.wrap .i64 (.shr (.wrap .u64 (.shl (.wrap .u64 (.a 0)) 48)) 48))] (by kernel_rfl) (fun _ _ _ => by kernel_rfl))
 (fun h => by_way (.eq (.a 0) (.shr (.wrap .i64 (.wrap .u64 (.shl (.wrap .u64 (.a 0)) 48))) 48)) (.at (.eq (.a 0) (.shr (.wrap .i64 (.wrap .u64 (.shl (.wrap .u64 (.a 0)) 48))) 48)) true) (.at (.eq (.a 0) (.shr (.wrap .i64 (.wrap .u64 (.shl (.wrap .u64 (.a 0)) 48))) 48)) false) rfl rfl h (fun h => lcG s_immfalse h [(.c 0), (.wrap .i64 (.shr (.wrap .u64 (.shl (.wrap .u64 (.a 0)) 48)) 48))] (by kernel_rfl) (fun _ _ _ => by kernel_rfl))
 (fun h => lcG s_immfalse h [(.c 5), (.c 0)] (by kernel_rfl) (fun _ _ _ => by kernel_rfl)))

theorem immfalse_2 (val : Nat → Int) (h : Holds val [tN 1 16, tN 1 8]) : Immfalse val := by_eq 1 32 h (fun h => by_way (.eq (.a 0) (.wrap .i64 (.shr (.wrap .u64 (.shl (.wrap .u64 (.a 0)) 32)) 32))) (.at (.eq (.a 0) (.wrap .i64 (.shr (.wrap .u64 (.shl (.wrap .u64 (.a 0)) 32)) 32))) true) (.at (.eq (.a 0) (.wrap .i64 (.shr (.wrap .u64 (.shl (.wrap .u64 (.a 0)) 32)) 32))) false) rfl rfl h (fun h => lcG s_immfalse h [(.c 0), (.wrap .i64 (.shr (.wrap .u64 (.shl (.wrap .u64 (.a 0)) 32)) 32))] (by kernel_rfl) (fun _ _ _ => by kernel_rfl))
 (fun h => by_way (.eq (.a 0) (.shr (.wrap .i64 (.wrap .u64 (.shl (.wrap .u64 (.a 0)) 32))) 32)) (.at (.eq (.a 0) (.shr (.wrap .i64 (.wrap .u64 (.shl (.wrap .u64 (.a 0)) 32))) 32)) true) (.at (.eq (.a 0) (.shr (.wrap .i64 (.wrap .u64 (.shl (.wrap .u64 (.a 0)) 32))) 32)) false) rfl rfl h (fun h => lcG s_immfalse h [(.c 0), (.wrap .i64 (.shr (.wrap .u64 (.shl (.wrap .u64 (.a 0)) 32)) 32))] (by kernel_rfl) (fun _ _ _ => by kernel_rfl))
 (fun h => lcG s_immfalse h [(.c 5), (.c 0)] (by kernel_rfl) (fun _ _ _ => by kernel_rfl))))
 (fun h => by_eq 1 64 h (fun h => by_way (.eq (.a 0) (.wrap .i64 (.shr (.wrap .u64 (.shl (.wrap .u64 (.a 0)) 0)) 0))) (.at (.eq (.a 0) (.wrap .i64 (.shr (.wrap .u64 (.shl (.wrap .u64 (.a 0)) 0)) 0))) true) (.at (.eq (.a 0) (.wrap .i64 (.shr (.wrap .u64 (.shl (.wrap .u64 (.a 0)) 0)) 0))) false) rfl rfl h (fun h => lcG s_immfalse h [(.c 0), (.wrap .i64 (.shr (.wrap .u64 (.shl (.wrap .u64 (.a 0)) 0)) 0))] (by kernel_rfl) (fun _ _ _ => by kernel_rfl))
 (fun h => by_way (.eq (.a 0) (.shr (.wrap .i64 (.wrap .u64 (.shl (.wrap .u64 (.a 0)) 0))) 0)) (.at (.eq (.a 0) (.shr (.wrap .i64 (.wrap .u64 (.shl (.wrap .u64 (.a 0)) 0))) 0)) true) (.at (.eq (.a 0) (.shr (.wrap .i64 (.wrap .u64 (.shl (.wrap .u64 (.a 0)) 0))) 0)) false) rfl rfl h (fun h => lcG s_immfalse h [(.c 0), (.wrap .i64 (.shr (.wrap .u64 (.shl (.wrap .u64 (.a 0)) 0)) 0))] (by kernel_rfl) (fun _ _ _ => by kernel_rfl))
 (fun h => lcG s_immfalse h [(.c 5), (.c 0)] (by kernel_rfl) (fun _ _ _ => by kernel_rfl))))
 (fun h => lcG s_immfalse h [(.c 2), (.c 0)] (by kernel_rfl) (fun _ _ _ => by kernel_rfl)))

theorem immfalse (val : Nat → Int) : Immfalse val :=
  have h : Holds val [] := holds_nil
  by_eq 1 8 h (fun h => immfalse_0 val h)
 (fun h => by_eq 1 16 h (fun h => immfalse_1 val h)
 (fun h => immfalse_2 val h))


theorem bits2 (val : Nat → Int) (h : Holds val [.ge (.a 3) 0]) : Bits2 val := by_eq 2 1 h (fun h => by_eq 3 0 h (fun h => by_eq 52 0 h (fun h => lcG s_bits2 h [(.c 0), (.c 0)] (by kernel_rfl) (fun _ _ _ => by kernel_rfl))
 (fun h => by_eq 4 1 h (fun h => lcG s_bits2 h [(.wrap .i64 (.mul (.c 8) (.a 52))), (.c 1)] (by kernel_rfl) (fun _ _ _ => by kernel_rfl))
 (fun h => lcG s_bits2 h [(.wrap .i64 (.mul (.c 8) (.a 52))), (.c 0)] (by kernel_rfl) (fun _ _ _ => by kernel_rfl))))
 (fun h => by_eq 4 1 h (fun h => lcG s_bits2 h [(.a 3), (.c 1)] (by kernel_rfl) (fun _ _ _ => by kernel_rfl))
 (fun h => lcG s_bits2 h [(.a 3), (.c 0)] (by kernel_rfl) (fun _ _ _ => by kernel_rfl))))
 (fun h => lcG s_bits2 h [(.c 0), (.c 0)] (by kernel_rfl) (fun _ _ _ => by kernel_rfl))


theorem bits5 (val : Nat → Int) (h : Holds val [.ge (.a 3) 0]) : Bits5 val := by_eq 2 1 h (fun h => by_eq 3 0 h (fun h => by_eq 52 0 h (fun h => lcG s_bits5 h [(.c 0), (.c 0)] (by kernel_rfl) (fun _ _ _ => by kernel_rfl))
 (fun h => by_eq 4 1 h (fun h => lcG s_bits5 h [(.wrap .i64 (.mul (.c 8) (.a 52))), (.c 1)] (by kernel_rfl) (fun _ _ _ => by kernel_rfl))
 (fun h => lcG s_bits5 h [(.wrap .i64 (.mul (.c 8) (.a 52))), (.c 0)] (by kernel_rfl) (fun _ _ _ => by kernel_rfl))))
 (fun h => by_eq 4 1 h (fun h => lcG s_bits5 h [(.a 3), (.c 1)] (by kernel_rfl) (fun _ _ _ => by kernel_rfl))
 (fun h => lcG s_bits5 h [(.a 3), (.c 0)] (by kernel_rfl) (fun _ _ _ => by kernel_rfl))))
 (fun h => lcG s_bits5 h [(.c 0), (.c 0)] (by kernel_rfl) (fun _ _ _ => by kernel_rfl))


theorem bits8 (val : Nat → Int) (h : Holds val [.ge (.a 3) 0]) : Bits8 val := by_eq 2 1 h (fun h => by_eq 3 0 h (fun h => by_eq 52 0 h (fun h => lcG s_bits8 h [(.c 0), (.c 0)] (by kernel_rfl) (fun _ _ _ => by kernel_rfl))
 (fun h => by_eq 4 1 h (fun h => lcG s_bits8 h [(.wrap .i64 (.mul (.c 8) (.a 52))), (.c 1)] (by kernel_rfl) (fun _ _ _ => by kernel_rfl))
 (fun h => lcG s_bits8 h [(.wrap .i64 (.mul (.c 8) (.a 52))), (.c 0)] (by kernel_rfl) (fun _ _ _ => by kernel_rfl))))
 (fun h => by_eq 4 1 h (fun h => lcG s_bits8 h [(.a 3), (.c 1)] (by kernel_rfl) (fun _ _ _ => by kernel_rfl))
 (fun h => lcG s_bits8 h [(.a 3), (.c 0)] (by kernel_rfl) (fun _ _ _ => by kernel_rfl))))
 (fun h => lcG s_bits8 h [(.c 0), (.c 0)] (by kernel_rfl) (fun _ _ _ => by kernel_rfl))


theorem chk0 (val : Nat → Int) (h : Holds val [.is (.a 38) 0]) : Chk0 val := by_eq 2 1 h (fun h => lcG s_chk0 h [(.c 0)] (by kernel_rfl) (fun _ _ _ => by kernel_rfl))
 (fun h => lcG s_chk0 h [(.c 6)] (by kernel_rfl) (fun _ _ _ => by kernel_rfl))


theorem chk5 (val : Nat → Int) : Chk5 val :=
  have h : Holds val [] := holds_nil
  by_eq 2 1 h (fun h => lcG s_chk5 h [(.c 3)] (by kernel_rfl) (fun _ _ _ => by kernel_rfl))
 (fun h => lcG s_chk5 h [(.c 6)] (by kernel_rfl) (fun _ _ _ => by kernel_rfl))


theorem chk8 (val : Nat → Int) : Chk8 val :=
  have h : Holds val [] := holds_nil
  by_eq 2 1 h (fun h => lcG s_chk8 h [(.c 3)] (by kernel_rfl) (fun _ _ _ => by kernel_rfl))
 (fun h => lcG s_chk8 h [(.c 6)] (by kernel_rfl) (fun _ _ _ => by kernel_rfl))

end Go.Proofs.Ytlggmhchgicjkaa.Tab
