/-
  Ways through the code, part 1.
-/
import Derived.Test.YtndiilfjeconbaaNimH
namespace Go.Proofs.Ytndiilfjeconbaa.Tab
open Go.Sim
set_option maxRecDepth 100000
set_option linter.unusedSimpArgs false
set_option maxHeartbeats 4000000

theorem immFalse_0 (val : Nat → Int) (h : Holds val [.le (.a 0) (-129), tI 1 8, .ge (.a 0) (-9223372036854775808), .le (.a 0) 9223372036854775807]) : ImmJ false val := ileaf h [(.c 5), (.c 0)] (by kernel_rfl) (by kernel_rfl) (by kernel_rfl)

theorem immFalse_1 (val : Nat → Int) (h : Holds val [.ge (.a 0) 256, .ge (.a 0) (-128), tI 1 8, .ge (.a 0) (-9223372036854775808), .le (.a 0) 9223372036854775807]) : ImmJ false val := ileaf h [(.c 5), (.c 0)] (by kernel_rfl) (by kernel_rfl) (by kernel_rfl)

theorem immFalse_3 (val : Nat → Int) (h : Holds val [.at (.eq (.wrap .i64 (.shr (.wrap .u64 (.shl (.wrap .u64 (.a 0)) 56)) 56)) (.wrap .i64 (.add (.a 0) (.c 256)))) false, .at (.eq (.a 0) (.shr (.wrap .i64 (.wrap .u64 (.shl (.wrap .u64 (.a 0)) 56))) 56)) true, .le (.a 0) (-1), .le (.a 0) 255, .ge (.a 0) (-128), .is (.a 1) 8, .ge (.a 0) (-9223372036854775808), .le (.a 0) 9223372036854775807]) : ImmJ false val := by
  exfalso
  have hb : Holds val (List.drop 6 _) := fun f hf => h f (List.mem_of_mem_drop hf)
  have ha : Holds val (List.take 1 _) := fun f hf => h f (List.mem_of_mem_take hf)
  have hc : Holds val (List.take 2 _) := fun f hf => h f (List.mem_of_mem_take hf)
  simp only [List.take_succ_cons, List.take_zero, List.drop_succ_cons, List.drop_zero, Holds, List.forall_mem_cons, List.not_mem_nil, false_implies, implies_true, and_true, Fact.holds, SB.eval, SX.eval, wrapU, wrapI, fdivP, tmodP, beq_iff_eq, beq_eq_false_iff_ne, decide_eq_true_eq, decide_eq_false_iff_not, ne_eq] at h ha hb hc
  simp only [Int.reducePow] at h ha hb hc
  first | (clear h hc; omega) | (clear h; omega) | omega

theorem immFalse_4 (val : Nat → Int) (h : Holds val [.at (.eq (.a 0) (.shr (.wrap .i64 (.wrap .u64 (.shl (.wrap .u64 (.a 0)) 56))) 56)) false, .le (.a 0) (-1), .le (.a 0) 255, .ge (.a 0) (-128), .is (.a 1) 8, .ge (.a 0) (-9223372036854775808), .le (.a 0) 9223372036854775807]) : ImmJ false val := by
  exfalso
  have hb : Holds val (List.drop 5 _) := fun f hf => h f (List.mem_of_mem_drop hf)
  have ha : Holds val (List.take 1 _) := fun f hf => h f (List.mem_of_mem_take hf)
  have hc : Holds val (List.take 2 _) := fun f hf => h f (List.mem_of_mem_take hf)
  simp only [List.take_succ_cons, List.take_zero, List.drop_succ_cons, List.drop_zero, Holds, List.forall_mem_cons, List.not_mem_nil, false_implies, implies_true, and_true, Fact.holds, SB.eval, SX.eval, wrapU, wrapI, fdivP, tmodP, beq_iff_eq, beq_eq_false_iff_ne, decide_eq_true_eq, decide_eq_false_iff_not, ne_eq] at h ha hb hc
  simp only [Int.reducePow] at h ha hb hc
  first | (clear h hc; omega) | (clear h; omega) | omega

theorem immFalse_2 (val : Nat → Int) (h : Holds val [.le (.a 0) (-1), .le (.a 0) 255, .ge (.a 0) (-128), tI 1 8, .ge (.a 0) (-9223372036854775808), .le (.a 0) 9223372036854775807]) : ImmJ false val := by_way (.eq (.a 0) (.shr (.wrap .i64 (.wrap .u64 (.shl (.wrap .u64 (.a 0)) 56))) 56)) (.at (.eq (.a 0) (.shr (.wrap .i64 (.wrap .u64 (.shl (.wrap .u64 (.a 0)) 56))) 56)) true) (.at (.eq (.a 0) (.shr (.wrap .i64 (.wrap .u64 (.shl (.wrap .u64 (.a 0)) 56))) 56)) false) rfl rfl h (fun h => by_way (.eq (.wrap .i64 (.shr (.wrap .u64 (.shl (.wrap .u64 (.a 0)) 56)) 56)) (.wrap .i64 (.add (.a 0) (.c 256)))) (.at (.eq (.wrap .i64 (.shr (.wrap .u64 (.shl (.wrap .u64 (.a 0)) 56)) 56)) (.wrap .i64 (.add (.a 0) (.c 256)))) true) (.at (.eq (.wrap .i64 (.shr (.wrap .u64 (.shl (.wrap .u64 (.a 0)) 56)) 56)) (.wrap .i64 (.add (.a 0) (.c 256)))) false) rfl rfl h (fun h => ileaf h [(.c 0), (.wrap .i64 (.add (.a 0) (.c 256)))] (by kernel_rfl) (by kernel_rfl) (by kernel_rfl))
 (fun h => immFalse_3 val h))
 (fun h => immFalse_4 val h)

theorem immFalse_6 (val : Nat → Int) (h : Holds val [.at (.eq (.wrap .i64 (.shr (.wrap .u64 (.shl (.wrap .u64 (.a 0)) 56)) 56)) (.a 0)) false, .at (.eq (.a 0) (.wrap .i64 (.shr (.wrap .u64 (.shl (.wrap .u64 (.a 0)) 56)) 56))) true, .ge (.a 0) 0, .le (.a 0) 255, .ge (.a 0) (-128), .is (.a 1) 8, .ge (.a 0) (-9223372036854775808), .le (.a 0) 9223372036854775807]) : ImmJ false val := by
  exfalso
  have hb : Holds val (List.drop 6 _) := fun f hf => h f (List.mem_of_mem_drop hf)
  have ha : Holds val (List.take 1 _) := fun f hf => h f (List.mem_of_mem_take hf)
  have hc : Holds val (List.take 2 _) := fun f hf => h f (List.mem_of_mem_take hf)
  simp only [List.take_succ_cons, List.take_zero, List.drop_succ_cons, List.drop_zero, Holds, List.forall_mem_cons, List.not_mem_nil, false_implies, implies_true, and_true, Fact.holds, SB.eval, SX.eval, wrapU, wrapI, fdivP, tmodP, beq_iff_eq, beq_eq_false_iff_ne, decide_eq_true_eq, decide_eq_false_iff_not, ne_eq] at h ha hb hc
  simp only [Int.reducePow] at h ha hb hc
  first | (clear h hc; omega) | (clear h; omega) | omega

theorem immFalse_7 (val : Nat → Int) (h : Holds val [.at (.eq (.wrap .i64 (.shr (.wrap .u64 (.shl (.wrap .u64 (.a 0)) 56)) 56)) (.a 0)) false, .at (.eq (.a 0) (.shr (.wrap .i64 (.wrap .u64 (.shl (.wrap .u64 (.a 0)) 56))) 56)) true, .at (.eq (.a 0) (.wrap .i64 (.shr (.wrap .u64 (.shl (.wrap .u64 (.a 0)) 56)) 56))) false, .ge (.a 0) 0, .le (.a 0) 255, .ge (.a 0) (-128), .is (.a 1) 8, .ge (.a 0) (-9223372036854775808), .le (.a 0) 9223372036854775807]) : ImmJ false val := by
  exfalso
  have hb : Holds val (List.drop 7 _) := fun f hf => h f (List.mem_of_mem_drop hf)
  have ha : Holds val (List.take 1 _) := fun f hf => h f (List.mem_of_mem_take hf)
  have hc : Holds val (List.take 2 _) := fun f hf => h f (List.mem_of_mem_take hf)
  simp only [List.take_succ_cons, List.take_zero, List.drop_succ_cons, List.drop_zero, Holds, List.forall_mem_cons, List.not_mem_nil, false_implies, implies_true, and_true, Fact.holds, SB.eval, SX.eval, wrapU, wrapI, fdivP, tmodP, beq_iff_eq, beq_eq_false_iff_ne, decide_eq_true_eq, decide_eq_false_iff_not, ne_eq] at h ha hb hc
  simp only [Int.reducePow] at h ha hb hc
  first | (clear h hc; omega) | (clear h; omega) | omega

theorem immFalse_8 (val : Nat → Int) (h : Holds val [.ne (.a 0) 0, .at (.eq (.a 0) (.shr (.wrap .i64 (.wrap .u64 (.shl (.wrap .u64 (.a 0)) 56))) 56)) false, .at (.eq (.a 0) (.wrap .i64 (.shr (.wrap .u64 (.shl (.wrap .u64 (.a 0)) 56)) 56))) false, .ge (.a 0) 0, .le (.a 0) 255, .ge (.a 0) (-128), .is (.a 1) 8, .ge (.a 0) (-9223372036854775808), .le (.a 0) 9223372036854775807]) : ImmJ false val := by
  exfalso
  have hb : Holds val (List.drop 7 _) := fun f hf => h f (List.mem_of_mem_drop hf)
  have ha : Holds val (List.take 1 _) := fun f hf => h f (List.mem_of_mem_take hf)
  have hc : Holds val (List.take 2 _) := fun f hf => h f (List.mem_of_mem_take hf)
  simp only [List.take_succ_cons, List.take_zero, List.drop_succ_cons, List.drop_zero, Holds, List.forall_mem_cons, List.not_mem_nil, false_implies, implies_true, and_true, Fact.holds, SB.eval, SX.eval, wrapU, wrapI, fdivP, tmodP, beq_iff_eq, beq_eq_false_iff_ne, decide_eq_true_eq, decide_eq_false_iff_not, ne_eq] at h ha hb hc
  simp only [Int.reducePow] at h ha hb hc
  first | (clear h hc; omega) | (clear h; omega) | omega

theorem immFalse_5 (val : Nat → Int) (h : Holds val [.ge (.a 0) 0, .le (.a 0) 255, .ge (.a 0) (-128), tI 1 8, .ge (.a 0) (-9223372036854775808), .le (.a 0) 9223372036854775807]) : ImmJ false val := by_way (.eq (.a 0) (.wrap .i64 (.shr (.wrap .u64 (.shl (.wrap .u64 (.a 0)) 56)) 56))) (.at (.eq (.a 0) (.wrap .i64 (.shr (.wrap .u64 (.shl (.wrap .u64 (.a 0)) 56)) 56))) true) (.at (.eq (.a 0) (.wrap .i64 (.shr (.wrap .u64 (.shl (.wrap .u64 (.a 0)) 56)) 56))) false) rfl rfl h (fun h => by_way (.eq (.wrap .i64 (.shr (.wrap .u64 (.shl (.wrap .u64 (.a 0)) 56)) 56)) (.a 0)) (.at (.eq (.wrap .i64 (.shr (.wrap .u64 (.shl (.wrap .u64 (.a 0)) 56)) 56)) (.a 0)) true) (.at (.eq (.wrap .i64 (.shr (.wrap .u64 (.shl (.wrap .u64 (.a 0)) 56)) 56)) (.a 0)) false) rfl rfl h (fun h => ileaf h [(.c 0), (.a 0)] (by kernel_rfl) (by kernel_rfl) (by kernel_rfl))
 (fun h => immFalse_6 val h))
 (fun h => by_way (.eq (.a 0) (.shr (.wrap .i64 (.wrap .u64 (.shl (.wrap .u64 (.a 0)) 56))) 56)) (.at (.eq (.a 0) (.shr (.wrap .i64 (.wrap .u64 (.shl (.wrap .u64 (.a 0)) 56))) 56)) true) (.at (.eq (.a 0) (.shr (.wrap .i64 (.wrap .u64 (.shl (.wrap .u64 (.a 0)) 56))) 56)) false) rfl rfl h (fun h => by_way (.eq (.wrap .i64 (.shr (.wrap .u64 (.shl (.wrap .u64 (.a 0)) 56)) 56)) (.a 0)) (.at (.eq (.wrap .i64 (.shr (.wrap .u64 (.shl (.wrap .u64 (.a 0)) 56)) 56)) (.a 0)) true) (.at (.eq (.wrap .i64 (.shr (.wrap .u64 (.shl (.wrap .u64 (.a 0)) 56)) 56)) (.a 0)) false) rfl rfl h (fun h => ileaf h [(.c 0), (.a 0)] (by kernel_rfl) (by kernel_rfl) (by kernel_rfl))
 (fun h => immFalse_7 val h))
 (fun h => by_way (.eq (.c 0) (.a 0)) (tI 0 0) (tN 0 0) rfl rfl h (fun h => ileaf h [(.c 0), (.a 0)] (by kernel_rfl) (by kernel_rfl) (by kernel_rfl))
 (fun h => immFalse_8 val h)))

theorem immFalse_9 (val : Nat → Int) (h : Holds val [.le (.a 0) (-32769), tI 1 16, tN 1 8, .ge (.a 0) (-9223372036854775808), .le (.a 0) 9223372036854775807]) : ImmJ false val := ileaf h [(.c 5), (.c 0)] (by kernel_rfl) (by kernel_rfl) (by kernel_rfl)

theorem immFalse_10 (val : Nat → Int) (h : Holds val [.ge (.a 0) 65536, .ge (.a 0) (-32768), tI 1 16, tN 1 8, .ge (.a 0) (-9223372036854775808), .le (.a 0) 9223372036854775807]) : ImmJ false val := ileaf h [(.c 5), (.c 0)] (by kernel_rfl) (by kernel_rfl) (by kernel_rfl)

theorem immFalse_12 (val : Nat → Int) (h : Holds val [.at (.eq (.wrap .i64 (.shr (.wrap .u64 (.shl (.wrap .u64 (.a 0)) 48)) 48)) (.wrap .i64 (.add (.a 0) (.c 65536)))) false, .at (.eq (.a 0) (.shr (.wrap .i64 (.wrap .u64 (.shl (.wrap .u64 (.a 0)) 48))) 48)) true, .le (.a 0) (-1), .le (.a 0) 65535, .ge (.a 0) (-32768), .is (.a 1) 16, .ne (.a 1) 8, .ge (.a 0) (-9223372036854775808), .le (.a 0) 9223372036854775807]) : ImmJ false val := by
  exfalso
  have hb : Holds val (List.drop 7 _) := fun f hf => h f (List.mem_of_mem_drop hf)
  have ha : Holds val (List.take 1 _) := fun f hf => h f (List.mem_of_mem_take hf)
  have hc : Holds val (List.take 2 _) := fun f hf => h f (List.mem_of_mem_take hf)
  simp only [List.take_succ_cons, List.take_zero, List.drop_succ_cons, List.drop_zero, Holds, List.forall_mem_cons, List.not_mem_nil, false_implies, implies_true, and_true, Fact.holds, SB.eval, SX.eval, wrapU, wrapI, fdivP, tmodP, beq_iff_eq, beq_eq_false_iff_ne, decide_eq_true_eq, decide_eq_false_iff_not, ne_eq] at h ha hb hc
  simp only [Int.reducePow] at h ha hb hc
  first | (clear h hc; omega) | (clear h; omega) | omega

theorem immFalse_13 (val : Nat → Int) (h : Holds val [.at (.eq (.a 0) (.shr (.wrap .i64 (.wrap .u64 (.shl (.wrap .u64 (.a 0)) 48))) 48)) false, .le (.a 0) (-1), .le (.a 0) 65535, .ge (.a 0) (-32768), .is (.a 1) 16, .ne (.a 1) 8, .ge (.a 0) (-9223372036854775808), .le (.a 0) 9223372036854775807]) : ImmJ false val := by
  exfalso
  have hb : Holds val (List.drop 6 _) := fun f hf => h f (List.mem_of_mem_drop hf)
  have ha : Holds val (List.take 1 _) := fun f hf => h f (List.mem_of_mem_take hf)
  have hc : Holds val (List.take 2 _) := fun f hf => h f (List.mem_of_mem_take hf)
  simp only [List.take_succ_cons, List.take_zero, List.drop_succ_cons, List.drop_zero, Holds, List.forall_mem_cons, List.not_mem_nil, false_implies, implies_true, and_true, Fact.holds, SB.eval, SX.eval, wrapU, wrapI, fdivP, tmodP, beq_iff_eq, beq_eq_false_iff_ne, decide_eq_true_eq, decide_eq_false_iff_not, ne_eq] at h ha hb hc
  simp only [Int.reducePow] at h ha hb hc
  first | (clear h hc; omega) | (clear h; omega) | omega

theorem immFalse_11 (val : Nat → Int) (h : Holds val [.le (.a 0) (-1), .le (.a 0) 65535, .ge (.a 0) (-32768), tI 1 16, tN 1 8, .ge (.a 0) (-9223372036854775808), .le (.a 0) 9223372036854775807]) : ImmJ false val := by_way (.eq (.a 0) (.shr (.wrap .i64 (.wrap .u64 (.shl (.wrap .u64 (.a 0)) 48))) 48)) (.at (.eq (.a 0) (.shr (.wrap .i64 (.wrap .u64 (.shl (.wrap .u64 (.a 0)) 48))) 48)) true) (.at (.eq (.a 0) (.shr (.wrap .i64 (.wrap .u64 (.shl (.wrap .u64 (.a 0)) 48))) 48)) false) rfl rfl h (fun h => by_way (.eq (.wrap .i64 (.shr (.wrap .u64 (.shl (.wrap .u64 (.a 0)) 48)) 48)) (.wrap .i64 (.add (.a 0) (.c 65536)))) (.at (.eq (.wrap .i64 (.shr (.wrap .u64 (.shl (.wrap .u64 (.a 0)) 48)) 48)) (.wrap .i64 (.add (.a 0) (.c 65536)))) true) (.at (.eq (.wrap .i64 (.shr (.wrap .u64 (.shl (.wrap .u64 (.a 0)) 48)) 48)) (.wrap .i64 (.add (.a 0) (.c 65536)))) false) rfl rfl h (fun h => ileaf h [(.c 0), (.wrap .i64 (.add (.a 0) (.c 65536)))] (by kernel_rfl) (by kernel_rfl) (by kernel_rfl))
 (fun h => immFalse_12 val h))
 (fun h => immFalse_13 val h)

theorem immFalse_15 (val : Nat → Int) (h : Holds val [.at (.eq (.wrap .i64 (.shr (.wrap .u64 (.shl (.wrap .u64 (.a 0)) 48)) 48)) (.a 0)) false, .at (.eq (.a 0) (.wrap .i64 (.shr (.wrap .u64 (.shl (.wrap .u64 (.a 0)) 48)) 48))) true, .ge (.a 0) 0, .le (.a 0) 65535, .ge (.a 0) (-32768), .is (.a 1) 16, .ne (.a 1) 8, .ge (.a 0) (-9223372036854775808), .le (.a 0) 9223372036854775807]) : ImmJ false val := by
  exfalso
  have hb : Holds val (List.drop 7 _) := fun f hf => h f (List.mem_of_mem_drop hf)
  have ha : Holds val (List.take 1 _) := fun f hf => h f (List.mem_of_mem_take hf)
  have hc : Holds val (List.take 2 _) := fun f hf => h f (List.mem_of_mem_take hf)
  simp only [List.take_succ_cons, List.take_zero, List.drop_succ_cons, List.drop_zero, Holds, List.forall_mem_cons, List.not_mem_nil, false_implies, implies_true, and_true, Fact.holds, SB.eval, SX.eval, wrapU, wrapI, fdivP, tmodP, beq_iff_eq, beq_eq_false_iff_ne, decide_eq_true_eq, decide_eq_false_iff_not, ne_eq] at h ha hb hc
  simp only [Int.reducePow] at h ha hb hc
  first | (clear h hc; omega) | (clear h; omega) | omega

theorem immFalse_16 (val : Nat → Int) (h : Holds val [.at (.eq (.wrap .i64 (.shr (.wrap .u64 (.shl (.wrap .u64 (.a 0)) 48)) 48)) (.a 0)) false, .at (.eq (.a 0) (.shr (.wrap .i64 (.wrap .u64 (.shl (.wrap .u64 (.a 0)) 48))) 48)) true, .at (.eq (.a 0) (.wrap .i64 (.shr (.wrap .u64 (.shl (.wrap .u64 (.a 0)) 48)) 48))) false, .ge (.a 0) 0, .le (.a 0) 65535, .ge (.a 0) (-32768), .is (.a 1) 16, .ne (.a 1) 8, .ge (.a 0) (-9223372036854775808), .le (.a 0) 9223372036854775807]) : ImmJ false val := by
  exfalso
  have hb : Holds val (List.drop 8 _) := fun f hf => h f (List.mem_of_mem_drop hf)
  have ha : Holds val (List.take 1 _) := fun f hf => h f (List.mem_of_mem_take hf)
  have hc : Holds val (List.take 2 _) := fun f hf => h f (List.mem_of_mem_take hf)
  simp only [List.take_succ_cons, List.take_zero, List.drop_succ_cons, List.drop_zero, Holds, List.forall_mem_cons, List.not_mem_nil, false_implies, implies_true, and_true, Fact.holds, SB.eval, SX.eval, wrapU, wrapI, fdivP, tmodP, beq_iff_eq, beq_eq_false_iff_ne, decide_eq_true_eq, decide_eq_false_iff_not, ne_eq] at h ha hb hc
  simp only [Int.reducePow] at h ha hb hc
  first | (clear h hc; omega) | (clear h; omega) | omega

theorem immFalse_17 (val : Nat → Int) (h : Holds val [.ne (.a 0) 0, .at (.eq (.a 0) (.shr (.wrap .i64 (.wrap .u64 (.shl (.wrap .u64 (.a 0)) 48))) 48)) false, .at (.eq (.a 0) (.wrap .i64 (.shr (.wrap .u64 (.shl (.wrap .u64 (.a 0)) 48)) 48))) false, .ge (.a 0) 0, .le (.a 0) 65535, .ge (.a 0) (-32768), .is (.a 1) 16, .ne (.a 1) 8, .ge (.a 0) (-9223372036854775808), .le (.a 0) 9223372036854775807]) : ImmJ false val := by
  exfalso
  have hb : Holds val (List.drop 8 _) := fun f hf => h f (List.mem_of_mem_drop hf)
  have ha : Holds val (List.take 1 _) := fun f hf => h f (List.mem_of_mem_take hf)
  have hc : Holds val (List.take 2 _) := fun f hf => h f (List.mem_of_mem_take hf)
  simp only [List.take_succ_cons, List.take_zero, List.drop_succ_cons, List.drop_zero, Holds, List.forall_mem_cons, List.not_mem_nil, false_implies, implies_true, and_true, Fact.holds, SB.eval, SX.eval, wrapU, wrapI, fdivP, tmodP, beq_iff_eq, beq_eq_false_iff_ne, decide_eq_true_eq, decide_eq_false_iff_not, ne_eq] at h ha hb hc
  simp only [Int.reducePow] at h ha hb hc
  first | (clear h hc; omega) | (clear h; omega) | omega

theorem immFalse_14 (val : Nat → Int) (h : Holds val [.ge (.a 0) 0, .le (.a 0) 65535, .ge (.a 0) (-32768), tI 1 16, tN 1 8, .ge (.a 0) (-9223372036854775808), .le (.a 0) 9223372036854775807]) : ImmJ false val := by_way (.eq (.a 0) (.wrap .i64 (.shr (.wrap .u64 (.shl (.wrap .u64 (.a 0)) 48)) 48))) (.at (.eq (.a 0) (.wrap .i64 (.shr (.wrap .u64 (.shl (.wrap .u64 (.a 0)) 48)) 48))) true) (.at (.eq (.a 0) (.wrap .i64 (.shr (.wrap .u64 (.shl (.wrap .u64 (.a 0)) 48)) 48))) false) rfl rfl h (fun h => by_way (.eq (.wrap .i64 (.shr (.wrap .u64 (.shl (.wrap .u64 (.a 0)) 48)) 48)) (.a 0)) (.at (.eq (.wrap .i64 (.shr (.wrap .u64 (.shl (.wrap .u64 (.a 0)) 48)) 48)) (.a 0)) true) (.at (.eq (.wrap .i64 (.shr (.wrap .u64 (.shl (.wrap .u64 (.a 0)) 48)) 48)) (.a 0)) false) rfl rfl h (fun h => ileaf h [(.c 0), (.a 0)] (by kernel_rfl) (by kernel_rfl) (by kernel_rfl))
 (fun h => immFalse_15 val h))
 (fun h => by_way (.eq (.a 0) (.shr (.wrap .i64 (.wrap .u64 (.shl (.wrap .u64 (.a 0)) 48))) 48)) (.at (.eq (.a 0) (.shr (.wrap .i64 (.wrap .u64 (.shl (.wrap .u64 (.a 0)) 48))) 48)) true) (.at (.eq (.a 0) (.shr (.wrap .i64 (.wrap .u64 (.shl (.wrap .u64 (.a 0)) 48))) 48)) false) rfl rfl h (fun h => by_way (.eq (.wrap .i64 (.shr (.wrap .u64 (.shl (.wrap .u64 (.a 0)) 48)) 48)) (.a 0)) (.at (.eq (.wrap .i64 (.shr (.wrap .u64 (.shl (.wrap .u64 (.a 0)) 48)) 48)) (.a 0)) true) (.at (.eq (.wrap .i64 (.shr (.wrap .u64 (.shl (.wrap .u64 (.a 0)) 48)) 48)) (.a 0)) false) rfl rfl h (fun h => ileaf h [(.c 0), (.a 0)] (by kernel_rfl) (by kernel_rfl) (by kernel_rfl))
 (fun h => immFalse_16 val h))
 (fun h => by_way (.eq (.c 0) (.a 0)) (tI 0 0) (tN 0 0) rfl rfl h (fun h => ileaf h [(.c 0), (.a 0)] (by kernel_rfl) (by kernel_rfl) (by kernel_rfl))
 (fun h => immFalse_17 val h)))

theorem immFalse_18 (val : Nat → Int) (h : Holds val [.le (.a 0) (-2147483649), tI 1 32, tN 1 16, tN 1 8, .ge (.a 0) (-9223372036854775808), .le (.a 0) 9223372036854775807]) : ImmJ false val := ileaf h [(.c 5), (.c 0)] (by kernel_rfl) (by kernel_rfl) (by kernel_rfl)

theorem immFalse_19 (val : Nat → Int) (h : Holds val [.ge (.a 0) 4294967296, .ge (.a 0) (-2147483648), tI 1 32, tN 1 16, tN 1 8, .ge (.a 0) (-9223372036854775808), .le (.a 0) 9223372036854775807]) : ImmJ false val := ileaf h [(.c 5), (.c 0)] (by kernel_rfl) (by kernel_rfl) (by kernel_rfl)

theorem immFalse_21 (val : Nat → Int) (h : Holds val [.at (.eq (.wrap .i64 (.shr (.wrap .u64 (.shl (.wrap .u64 (.a 0)) 32)) 32)) (.wrap .i64 (.add (.a 0) (.c 4294967296)))) false, .at (.eq (.a 0) (.shr (.wrap .i64 (.wrap .u64 (.shl (.wrap .u64 (.a 0)) 32))) 32)) true, .le (.a 0) (-1), .le (.a 0) 4294967295, .ge (.a 0) (-2147483648), .is (.a 1) 32, .ne (.a 1) 16, .ne (.a 1) 8, .ge (.a 0) (-9223372036854775808), .le (.a 0) 9223372036854775807]) : ImmJ false val := by
  exfalso
  have hb : Holds val (List.drop 8 _) := fun f hf => h f (List.mem_of_mem_drop hf)
  have ha : Holds val (List.take 1 _) := fun f hf => h f (List.mem_of_mem_take hf)
  have hc : Holds val (List.take 2 _) := fun f hf => h f (List.mem_of_mem_take hf)
  simp only [List.take_succ_cons, List.take_zero, List.drop_succ_cons, List.drop_zero, Holds, List.forall_mem_cons, List.not_mem_nil, false_implies, implies_true, and_true, Fact.holds, SB.eval, SX.eval, wrapU, wrapI, fdivP, tmodP, beq_iff_eq, beq_eq_false_iff_ne, decide_eq_true_eq, decide_eq_false_iff_not, ne_eq] at h ha hb hc
  simp only [Int.reducePow] at h ha hb hc
  first | (clear h hc; omega) | (clear h; omega) | omega

theorem immFalse_22 (val : Nat → Int) (h : Holds val [.at (.eq (.a 0) (.shr (.wrap .i64 (.wrap .u64 (.shl (.wrap .u64 (.a 0)) 32))) 32)) false, .le (.a 0) (-1), .le (.a 0) 4294967295, .ge (.a 0) (-2147483648), .is (.a 1) 32, .ne (.a 1) 16, .ne (.a 1) 8, .ge (.a 0) (-9223372036854775808), .le (.a 0) 9223372036854775807]) : ImmJ false val := by
  exfalso
  have hb : Holds val (List.drop 7 _) := fun f hf => h f (List.mem_of_mem_drop hf)
  have ha : Holds val (List.take 1 _) := fun f hf => h f (List.mem_of_mem_take hf)
  have hc : Holds val (List.take 2 _) := fun f hf => h f (List.mem_of_mem_take hf)
  simp only [List.take_succ_cons, List.take_zero, List.drop_succ_cons, List.drop_zero, Holds, List.forall_mem_cons, List.not_mem_nil, false_implies, implies_true, and_true, Fact.holds, SB.eval, SX.eval, wrapU, wrapI, fdivP, tmodP, beq_iff_eq, beq_eq_false_iff_ne, decide_eq_true_eq, decide_eq_false_iff_not, ne_eq] at h ha hb hc
  simp only [Int.reducePow] at h ha hb hc
  first | (clear h hc; omega) | (clear h; omega) | omega

theorem immFalse_20 (val : Nat → Int) (h : Holds val [.le (.a 0) (-1), .le (.a 0) 4294967295, .ge (.a 0) (-2147483648), tI 1 32, tN 1 16, tN 1 8, .ge (.a 0) (-9223372036854775808), .le (.a 0) 9223372036854775807]) : ImmJ false val := by_way (.eq (.a 0) (.shr (.wrap .i64 (.wrap .u64 (.shl (.wrap .u64 (.a 0)) 32))) 32)) (.at (.eq (.a 0) (.shr (.wrap .i64 (.wrap .u64 (.shl (.wrap .u64 (.a 0)) 32))) 32)) true) (.at (.eq (.a 0) (.shr (.wrap .i64 (.wrap .u64 (.shl (.wrap .u64 (.a 0)) 32))) 32)) false) rfl rfl h (fun h => by_way (.eq (.wrap .i64 (.shr (.wrap .u64 (.shl (.wrap .u64 (.a 0)) 32)) 32)) (.wrap .i64 (.add (.a 0) (.c 4294967296)))) (.at (.eq (.wrap .i64 (.shr (.wrap .u64 (.shl (.wrap .u64 (.a 0)) 32)) 32)) (.wrap .i64 (.add (.a 0) (.c 4294967296)))) true) (.at (.eq (.wrap .i64 (.shr (.wrap .u64 (.shl (.wrap .u64 (.a 0)) 32)) 32)) (.wrap .i64 (.add (.a 0) (.c 4294967296)))) false) rfl rfl h (fun h => ileaf h [(.c 0), (.wrap .i64 (.add (.a 0) (.c 4294967296)))] (by kernel_rfl) (by kernel_rfl) (by kernel_rfl))
 (fun h => immFalse_21 val h))
 (fun h => immFalse_22 val h)

theorem immFalse_24 (val : Nat → Int) (h : Holds val [.at (.eq (.wrap .i64 (.shr (.wrap .u64 (.shl (.wrap .u64 (.a 0)) 32)) 32)) (.a 0)) false, .at (.eq (.a 0) (.wrap .i64 (.shr (.wrap .u64 (.shl (.wrap .u64 (.a 0)) 32)) 32))) true, .ge (.a 0) 0, .le (.a 0) 4294967295, .ge (.a 0) (-2147483648), .is (.a 1) 32, .ne (.a 1) 16, .ne (.a 1) 8, .ge (.a 0) (-9223372036854775808), .le (.a 0) 9223372036854775807]) : ImmJ false val := by
  exfalso
  have hb : Holds val (List.drop 8 _) := fun f hf => h f (List.mem_of_mem_drop hf)
  have ha : Holds val (List.take 1 _) := fun f hf => h f (List.mem_of_mem_take hf)
  have hc : Holds val (List.take 2 _) := fun f hf => h f (List.mem_of_mem_take hf)
  simp only [List.take_succ_cons, List.take_zero, List.drop_succ_cons, List.drop_zero, Holds, List.forall_mem_cons, List.not_mem_nil, false_implies, implies_true, and_true, Fact.holds, SB.eval, SX.eval, wrapU, wrapI, fdivP, tmodP, beq_iff_eq, beq_eq_false_iff_ne, decide_eq_true_eq, decide_eq_false_iff_not, ne_eq] at h ha hb hc
  simp only [Int.reducePow] at h ha hb hc
  first | (clear h hc; omega) | (clear h; omega) | omega

theorem immFalse_25 (val : Nat → Int) (h : Holds val [.at (.eq (.wrap .i64 (.shr (.wrap .u64 (.shl (.wrap .u64 (.a 0)) 32)) 32)) (.a 0)) false, .at (.eq (.a 0) (.shr (.wrap .i64 (.wrap .u64 (.shl (.wrap .u64 (.a 0)) 32))) 32)) true, .at (.eq (.a 0) (.wrap .i64 (.shr (.wrap .u64 (.shl (.wrap .u64 (.a 0)) 32)) 32))) false, .ge (.a 0) 0, .le (.a 0) 4294967295, .ge (.a 0) (-2147483648), .is (.a 1) 32, .ne (.a 1) 16, .ne (.a 1) 8, .ge (.a 0) (-9223372036854775808), .le (.a 0) 9223372036854775807]) : ImmJ false val := by
  exfalso
  have hb : Holds val (List.drop 9 _) := fun f hf => h f (List.mem_of_mem_drop hf)
  have ha : Holds val (List.take 1 _) := fun f hf => h f (List.mem_of_mem_take hf)
  have hc : Holds val (List.take 2 _) := fun f hf => h f (List.mem_of_mem_take hf)
  simp only [List.take_succ_cons, List.take_zero, List.drop_succ_cons, List.drop_zero, Holds, List.forall_mem_cons, List.not_mem_nil, false_implies, implies_true, and_true, Fact.holds, SB.eval, SX.eval, wrapU, wrapI, fdivP, tmodP, beq_iff_eq, beq_eq_false_iff_ne, decide_eq_true_eq, decide_eq_false_iff_not, ne_eq] at h ha hb hc
  simp only [Int.reducePow] at h ha hb hc
  first | (clear h hc; omega) | (clear h; omega) | omega

theorem immFalse_26 (val : Nat → Int) (h : Holds val [.ne (.a 0) 0, .at (.eq (.a 0) (.shr (.wrap .i64 (.wrap .u64 (.shl (.wrap .u64 (.a 0)) 32))) 32)) false, .at (.eq (.a 0) (.wrap .i64 (.shr (.wrap .u64 (.shl (.wrap .u64 (.a 0)) 32)) 32))) false, .ge (.a 0) 0, .le (.a 0) 4294967295, .ge (.a 0) (-2147483648), .is (.a 1) 32, .ne (.a 1) 16, .ne (.a 1) 8, .ge (.a 0) (-9223372036854775808), .le (.a 0) 9223372036854775807]) : ImmJ false val := by
  exfalso
  have hb : Holds val (List.drop 9 _) := fun f hf => h f (List.mem_of_mem_drop hf)
  have ha : Holds val (List.take 1 _) := fun f hf => h f (List.mem_of_mem_take hf)
  have hc : Holds val (List.take 2 _) := fun f hf => h f (List.mem_of_mem_take hf)
  simp only [List.take_succ_cons, List.take_zero, List.drop_succ_cons, List.drop_zero, Holds, List.forall_mem_cons, List.not_mem_nil, false_implies, implies_true, and_true, Fact.holds, SB.eval, SX.eval, wrapU, wrapI, fdivP, tmodP, beq_iff_eq, beq_eq_false_iff_ne, decide_eq_true_eq, decide_eq_false_iff_not, ne_eq] at h ha hb hc
  simp only [Int.reducePow] at h ha hb hc
  first | (clear h hc; omega) | (clear h; omega) | omega

theorem immFalse_23 (val : Nat → Int) (h : Holds val [.ge (.a 0) 0, .le (.a 0) 4294967295, .ge (.a 0) (-2147483648), tI 1 32, tN 1 16, tN 1 8, .ge (.a 0) (-9223372036854775808), .le (.a 0) 9223372036854775807]) : ImmJ false val := by_way (.eq (.a 0) (.wrap .i64 (.shr (.wrap .u64 (.shl (.wrap .u64 (.a 0)) 32)) 32))) (.at (.eq (.a 0) (.wrap .i64 (.shr (.wrap .u64 (.shl (.wrap .u64 (.a 0)) 32)) 32))) true) (.at (.eq (.a 0) (.wrap .i64 (.shr (.wrap .u64 (.shl (.wrap .u64 (.a 0)) 32)) 32))) false) rfl rfl h (fun h => by_way (.eq (.wrap .i64 (.shr (.wrap .u64 (.shl (.wrap .u64 (.a 0)) 32)) 32)) (.a 0)) (.at (.eq (.wrap .i64 (.shr (.wrap .u64 (.shl (.wrap .u64 (.a 0)) 32)) 32)) (.a 0)) true) (.at (.eq (.wrap .i64 (.shr (.wrap .u64 (.shl (.wrap .u64 (.a 0)) 32)) 32)) (.a 0)) false) rfl rfl h (fun h => ileaf h [(.c 0), (.a 0)] (by kernel_rfl) (by kernel_rfl) (by kernel_rfl))
 (fun h => immFalse_24 val h))
 (fun h => by_way (.eq (.a 0) (.shr (.wrap .i64 (.wrap .u64 (.shl (.wrap .u64 (.a 0)) 32))) 32)) (.at (.eq (.a 0) (.shr (.wrap .i64 (.wrap .u64 (.shl (.wrap .u64 (.a 0)) 32))) 32)) true) (.at (.eq (.a 0) (.shr (.wrap .i64 (.wrap .u64 (.shl (.wrap .u64 (.a 0)) 32))) 32)) false) rfl rfl h (fun h => by_way (.eq (.wrap .i64 (.shr (.wrap .u64 (.shl (.wrap .u64 (.a 0)) 32)) 32)) (.a 0)) (.at (.eq (.wrap .i64 (.shr (.wrap .u64 (.shl (.wrap .u64 (.a 0)) 32)) 32)) (.a 0)) true) (.at (.eq (.wrap .i64 (.shr (.wrap .u64 (.shl (.wrap .u64 (.a 0)) 32)) 32)) (.a 0)) false) rfl rfl h (fun h => ileaf h [(.c 0), (.a 0)] (by kernel_rfl) (by kernel_rfl) (by kernel_rfl))
 (fun h => immFalse_25 val h))
 (fun h => by_way (.eq (.c 0) (.a 0)) (tI 0 0) (tN 0 0) rfl rfl h (fun h => ileaf h [(.c 0), (.a 0)] (by kernel_rfl) (by kernel_rfl) (by kernel_rfl))
 (fun h => immFalse_26 val h)))

theorem immFalse_28 (val : Nat → Int) (h : Holds val [.at (.eq (.wrap .i64 (.shr (.wrap .u64 (.shl (.wrap .u64 (.a 0)) 0)) 0)) (.a 0)) false, .at (.eq (.a 0) (.wrap .i64 (.shr (.wrap .u64 (.shl (.wrap .u64 (.a 0)) 0)) 0))) true, .is (.a 1) 64, .ne (.a 1) 32, .ne (.a 1) 16, .ne (.a 1) 8, .ge (.a 0) (-9223372036854775808), .le (.a 0) 9223372036854775807]) : ImmJ false val := by
  exfalso
  have hb : Holds val (List.drop 6 _) := fun f hf => h f (List.mem_of_mem_drop hf)
  have ha : Holds val (List.take 1 _) := fun f hf => h f (List.mem_of_mem_take hf)
  have hc : Holds val (List.take 2 _) := fun f hf => h f (List.mem_of_mem_take hf)
  simp only [List.take_succ_cons, List.take_zero, List.drop_succ_cons, List.drop_zero, Holds, List.forall_mem_cons, List.not_mem_nil, false_implies, implies_true, and_true, Fact.holds, SB.eval, SX.eval, wrapU, wrapI, fdivP, tmodP, beq_iff_eq, beq_eq_false_iff_ne, decide_eq_true_eq, decide_eq_false_iff_not, ne_eq] at h ha hb hc
  simp only [Int.reducePow] at h ha hb hc
  first | (clear h hc; omega) | (clear h; omega) | omega

theorem immFalse_29 (val : Nat → Int) (h : Holds val [.at (.eq (.wrap .i64 (.shr (.wrap .u64 (.shl (.wrap .u64 (.a 0)) 0)) 0)) (.a 0)) false, .at (.eq (.a 0) (.shr (.wrap .i64 (.wrap .u64 (.shl (.wrap .u64 (.a 0)) 0))) 0)) true, .at (.eq (.a 0) (.wrap .i64 (.shr (.wrap .u64 (.shl (.wrap .u64 (.a 0)) 0)) 0))) false, .is (.a 1) 64, .ne (.a 1) 32, .ne (.a 1) 16, .ne (.a 1) 8, .ge (.a 0) (-9223372036854775808), .le (.a 0) 9223372036854775807]) : ImmJ false val := by
  exfalso
  have hb : Holds val (List.drop 7 _) := fun f hf => h f (List.mem_of_mem_drop hf)
  have ha : Holds val (List.take 1 _) := fun f hf => h f (List.mem_of_mem_take hf)
  have hc : Holds val (List.take 2 _) := fun f hf => h f (List.mem_of_mem_take hf)
  simp only [List.take_succ_cons, List.take_zero, List.drop_succ_cons, List.drop_zero, Holds, List.forall_mem_cons, List.not_mem_nil, false_implies, implies_true, and_true, Fact.holds, SB.eval, SX.eval, wrapU, wrapI, fdivP, tmodP, beq_iff_eq, beq_eq_false_iff_ne, decide_eq_true_eq, decide_eq_false_iff_not, ne_eq] at h ha hb hc
  simp only [Int.reducePow] at h ha hb hc
  first | (clear h hc; omega) | (clear h; omega) | omega

theorem immFalse_30 (val : Nat → Int) (h : Holds val [.ne (.a 0) 0, .at (.eq (.a 0) (.shr (.wrap .i64 (.wrap .u64 (.shl (.wrap .u64 (.a 0)) 0))) 0)) false, .at (.eq (.a 0) (.wrap .i64 (.shr (.wrap .u64 (.shl (.wrap .u64 (.a 0)) 0)) 0))) false, .is (.a 1) 64, .ne (.a 1) 32, .ne (.a 1) 16, .ne (.a 1) 8, .ge (.a 0) (-9223372036854775808), .le (.a 0) 9223372036854775807]) : ImmJ false val := by
  exfalso
  have hb : Holds val (List.drop 7 _) := fun f hf => h f (List.mem_of_mem_drop hf)
  have ha : Holds val (List.take 1 _) := fun f hf => h f (List.mem_of_mem_take hf)
  have hc : Holds val (List.take 2 _) := fun f hf => h f (List.mem_of_mem_take hf)
  simp only [List.take_succ_cons, List.take_zero, List.drop_succ_cons, List.drop_zero, Holds, List.forall_mem_cons, List.not_mem_nil, false_implies, implies_true, and_true, Fact.holds, SB.eval, SX.eval, wrapU, wrapI, fdivP, tmodP, beq_iff_eq, beq_eq_false_iff_ne, decide_eq_true_eq, decide_eq_false_iff_not, ne_eq] at h ha hb hc
  simp only [Int.reducePow] at h ha hb hc
  first | (clear h hc; omega) | (clear h; omega) | omega

theorem immFalse_27 (val : Nat → Int) (h : Holds val [tN 1 32, tN 1 16, tN 1 8, .ge (.a 0) (-9223372036854775808), .le (.a 0) 9223372036854775807]) : ImmJ false val := by_eq 1 64 h (fun h => by_way (.eq (.a 0) (.wrap .i64 (.shr (.wrap .u64 (.shl (.wrap .u64 (.a 0)) 0)) 0))) (.at (.eq (.a 0) (.wrap .i64 (.shr (.wrap .u64 (.shl (.wrap .u64 (.a 0)) 0)) 0))) true) (.at (.eq (.a 0) (.wrap .i64 (.shr (.wrap .u64 (.shl (.wrap .u64 (.a 0)) 0)) 0))) false) rfl rfl h (fun h => by_way (.eq (.wrap .i64 (.shr (.wrap .u64 (.shl (.wrap .u64 (.a 0)) 0)) 0)) (.a 0)) (.at (.eq (.wrap .i64 (.shr (.wrap .u64 (.shl (.wrap .u64 (.a 0)) 0)) 0)) (.a 0)) true) (.at (.eq (.wrap .i64 (.shr (.wrap .u64 (.shl (.wrap .u64 (.a 0)) 0)) 0)) (.a 0)) false) rfl rfl h (fun h => ileaf h [(.c 0), (.a 0)] (by kernel_rfl) (by kernel_rfl) (by kernel_rfl))
 (fun h => immFalse_28 val h))
 (fun h => by_way (.eq (.a 0) (.shr (.wrap .i64 (.wrap .u64 (.shl (.wrap .u64 (.a 0)) 0))) 0)) (.at (.eq (.a 0) (.shr (.wrap .i64 (.wrap .u64 (.shl (.wrap .u64 (.a 0)) 0))) 0)) true) (.at (.eq (.a 0) (.shr (.wrap .i64 (.wrap .u64 (.shl (.wrap .u64 (.a 0)) 0))) 0)) false) rfl rfl h (fun h => by_way (.eq (.wrap .i64 (.shr (.wrap .u64 (.shl (.wrap .u64 (.a 0)) 0)) 0)) (.a 0)) (.at (.eq (.wrap .i64 (.shr (.wrap .u64 (.shl (.wrap .u64 (.a 0)) 0)) 0)) (.a 0)) true) (.at (.eq (.wrap .i64 (.shr (.wrap .u64 (.shl (.wrap .u64 (.a 0)) 0)) 0)) (.a 0)) false) rfl rfl h (fun h => ileaf h [(.c 0), (.a 0)] (by kernel_rfl) (by kernel_rfl) (by kernel_rfl))
 (fun h => immFalse_29 val h))
 (fun h => by_way (.eq (.c 0) (.a 0)) (tI 0 0) (tN 0 0) rfl rfl h (fun h => ileaf h [(.c 0), (.a 0)] (by kernel_rfl) (by kernel_rfl) (by kernel_rfl))
 (fun h => immFalse_30 val h))))
 (fun h => ileaf h [(.c 2), (.c 0)] (by kernel_rfl) (by kernel_rfl) (by kernel_rfl))

theorem immFalse (val : Nat → Int) (h : Holds val [.ge (.a 0) (-9223372036854775808), .le (.a 0) 9223372036854775807]) : ImmJ false val := by_eq 1 8 h (fun h => by_way (.lt (.a 0) (.c (-128))) (.le (.a 0) (-129)) (.ge (.a 0) (-128)) rfl rfl h (fun h => immFalse_0 val h)
 (fun h => by_way (.le (.c 256) (.a 0)) (.ge (.a 0) 256) (.le (.a 0) 255) rfl rfl h (fun h => immFalse_1 val h)
 (fun h => by_way (.lt (.a 0) (.c 0)) (.le (.a 0) (-1)) (.ge (.a 0) 0) rfl rfl h (fun h => immFalse_2 val h)
 (fun h => immFalse_5 val h))))
 (fun h => by_eq 1 16 h (fun h => by_way (.lt (.a 0) (.c (-32768))) (.le (.a 0) (-32769)) (.ge (.a 0) (-32768)) rfl rfl h (fun h => immFalse_9 val h)
 (fun h => by_way (.le (.c 65536) (.a 0)) (.ge (.a 0) 65536) (.le (.a 0) 65535) rfl rfl h (fun h => immFalse_10 val h)
 (fun h => by_way (.lt (.a 0) (.c 0)) (.le (.a 0) (-1)) (.ge (.a 0) 0) rfl rfl h (fun h => immFalse_11 val h)
 (fun h => immFalse_14 val h))))
 (fun h => by_eq 1 32 h (fun h => by_way (.lt (.a 0) (.c (-2147483648))) (.le (.a 0) (-2147483649)) (.ge (.a 0) (-2147483648)) rfl rfl h (fun h => immFalse_18 val h)
 (fun h => by_way (.le (.c 4294967296) (.a 0)) (.ge (.a 0) 4294967296) (.le (.a 0) 4294967295) rfl rfl h (fun h => immFalse_19 val h)
 (fun h => by_way (.lt (.a 0) (.c 0)) (.le (.a 0) (-1)) (.ge (.a 0) 0) rfl rfl h (fun h => immFalse_20 val h)
 (fun h => immFalse_23 val h))))
 (fun h => immFalse_27 val h)))

end Go.Proofs.Ytndiilfjeconbaa.Tab
