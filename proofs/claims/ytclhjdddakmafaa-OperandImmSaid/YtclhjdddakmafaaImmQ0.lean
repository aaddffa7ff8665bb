/-
  Ways through the code, part 0.
-/
import Derived.Test.YtclhjdddakmafaaImmH
namespace Go.Proofs.Ytclhjdddakmafaa.Tab
open Go.Sim
set_option maxRecDepth 100000
set_option linter.unusedSimpArgs false

theorem immFalse_0 (val : Nat → Int) (h : Holds val [.at (.eq (.a 0) (.shr (.wrap .i64 (.wrap .u64 (.shl (.wrap .u64 (.a 0)) 56))) 56)) true, .is (.wrap .i64 (.shr (.wrap .u64 (.shl (.wrap .u64 (.a 0)) 56)) 56)) 0, .le (.a 0) (-129), .at (.eq (.a 0) (.wrap .i64 (.shr (.wrap .u64 (.shl (.wrap .u64 (.a 0)) 56)) 56))) true, .is (.a 1) 8, .ge (.a 0) (-9223372036854775808), .le (.a 0) 9223372036854775807]) : ImmQ false val := by
  exfalso
  have hb : Holds val (List.drop 5 _) := fun f hf => h f (List.mem_of_mem_drop hf)
  have ha : Holds val (List.take 1 _) := fun f hf => h f (List.mem_of_mem_take hf)
  have hc : Holds val (List.take 2 _) := fun f hf => h f (List.mem_of_mem_take hf)
  simp only [List.take_succ_cons, List.take_zero, List.drop_succ_cons, List.drop_zero, Holds, List.forall_mem_cons, List.not_mem_nil, false_implies, implies_true, and_true, Fact.holds, SB.eval, SX.eval, wrapU, wrapI, fdivP, tmodP, beq_iff_eq, beq_eq_false_iff_ne, decide_eq_true_eq, decide_eq_false_iff_not, ne_eq] at h ha hb hc
  simp only [Int.reducePow] at h ha hb hc
  first | (clear h hc; omega) | (clear h; omega) | omega

theorem immFalse_1 (val : Nat → Int) (h : Holds val [.at (.eq (.a 0) (.shr (.wrap .i64 (.wrap .u64 (.shl (.wrap .u64 (.a 0)) 56))) 56)) false, .is (.wrap .i64 (.shr (.wrap .u64 (.shl (.wrap .u64 (.a 0)) 56)) 56)) 0, .le (.a 0) (-129), .at (.eq (.a 0) (.wrap .i64 (.shr (.wrap .u64 (.shl (.wrap .u64 (.a 0)) 56)) 56))) true, .is (.a 1) 8, .ge (.a 0) (-9223372036854775808), .le (.a 0) 9223372036854775807]) : ImmQ false val :=
  leafI h (by kernel_rfl)

theorem immFalse_2 (val : Nat → Int) (h : Holds val [.ne (.wrap .i64 (.shr (.wrap .u64 (.shl (.wrap .u64 (.a 0)) 56)) 56)) 0, .le (.a 0) (-129), .at (.eq (.a 0) (.wrap .i64 (.shr (.wrap .u64 (.shl (.wrap .u64 (.a 0)) 56)) 56))) true, .is (.a 1) 8, .ge (.a 0) (-9223372036854775808), .le (.a 0) 9223372036854775807]) : ImmQ false val := by
  exfalso
  have hb : Holds val (List.drop 4 _) := fun f hf => h f (List.mem_of_mem_drop hf)
  have ha : Holds val (List.take 1 _) := fun f hf => h f (List.mem_of_mem_take hf)
  have hc : Holds val (List.take 2 _) := fun f hf => h f (List.mem_of_mem_take hf)
  simp only [List.take_succ_cons, List.take_zero, List.drop_succ_cons, List.drop_zero, Holds, List.forall_mem_cons, List.not_mem_nil, false_implies, implies_true, and_true, Fact.holds, SB.eval, SX.eval, wrapU, wrapI, fdivP, tmodP, beq_iff_eq, beq_eq_false_iff_ne, decide_eq_true_eq, decide_eq_false_iff_not, ne_eq] at h ha hb hc
  simp only [Int.reducePow] at h ha hb hc
  first | (clear h hc; omega) | (clear h; omega) | omega

theorem immFalse_3 (val : Nat → Int) (h : Holds val [.at (.eq (.a 0) (.shr (.wrap .i64 (.wrap .u64 (.shl (.wrap .u64 (.a 0)) 56))) 56)) true, .is (.wrap .i64 (.shr (.wrap .u64 (.shl (.wrap .u64 (.a 0)) 56)) 56)) 0, .ge (.a 0) 256, .ge (.a 0) (-128), .at (.eq (.a 0) (.wrap .i64 (.shr (.wrap .u64 (.shl (.wrap .u64 (.a 0)) 56)) 56))) true, .is (.a 1) 8, .ge (.a 0) (-9223372036854775808), .le (.a 0) 9223372036854775807]) : ImmQ false val := by
  exfalso
  have hb : Holds val (List.drop 6 _) := fun f hf => h f (List.mem_of_mem_drop hf)
  have ha : Holds val (List.take 1 _) := fun f hf => h f (List.mem_of_mem_take hf)
  have hc : Holds val (List.take 2 _) := fun f hf => h f (List.mem_of_mem_take hf)
  simp only [List.take_succ_cons, List.take_zero, List.drop_succ_cons, List.drop_zero, Holds, List.forall_mem_cons, List.not_mem_nil, false_implies, implies_true, and_true, Fact.holds, SB.eval, SX.eval, wrapU, wrapI, fdivP, tmodP, beq_iff_eq, beq_eq_false_iff_ne, decide_eq_true_eq, decide_eq_false_iff_not, ne_eq] at h ha hb hc
  simp only [Int.reducePow] at h ha hb hc
  first | (clear h hc; omega) | (clear h; omega) | omega

theorem immFalse_4 (val : Nat → Int) (h : Holds val [.at (.eq (.a 0) (.shr (.wrap .i64 (.wrap .u64 (.shl (.wrap .u64 (.a 0)) 56))) 56)) false, .is (.wrap .i64 (.shr (.wrap .u64 (.shl (.wrap .u64 (.a 0)) 56)) 56)) 0, .ge (.a 0) 256, .ge (.a 0) (-128), .at (.eq (.a 0) (.wrap .i64 (.shr (.wrap .u64 (.shl (.wrap .u64 (.a 0)) 56)) 56))) true, .is (.a 1) 8, .ge (.a 0) (-9223372036854775808), .le (.a 0) 9223372036854775807]) : ImmQ false val :=
  leafI h (by kernel_rfl)

theorem immFalse_5 (val : Nat → Int) (h : Holds val [.ne (.wrap .i64 (.shr (.wrap .u64 (.shl (.wrap .u64 (.a 0)) 56)) 56)) 0, .ge (.a 0) 256, .ge (.a 0) (-128), .at (.eq (.a 0) (.wrap .i64 (.shr (.wrap .u64 (.shl (.wrap .u64 (.a 0)) 56)) 56))) true, .is (.a 1) 8, .ge (.a 0) (-9223372036854775808), .le (.a 0) 9223372036854775807]) : ImmQ false val := by
  exfalso
  have hb : Holds val (List.drop 5 _) := fun f hf => h f (List.mem_of_mem_drop hf)
  have ha : Holds val (List.take 1 _) := fun f hf => h f (List.mem_of_mem_take hf)
  have hc : Holds val (List.take 2 _) := fun f hf => h f (List.mem_of_mem_take hf)
  simp only [List.take_succ_cons, List.take_zero, List.drop_succ_cons, List.drop_zero, Holds, List.forall_mem_cons, List.not_mem_nil, false_implies, implies_true, and_true, Fact.holds, SB.eval, SX.eval, wrapU, wrapI, fdivP, tmodP, beq_iff_eq, beq_eq_false_iff_ne, decide_eq_true_eq, decide_eq_false_iff_not, ne_eq] at h ha hb hc
  simp only [Int.reducePow] at h ha hb hc
  first | (clear h hc; omega) | (clear h; omega) | omega

theorem immFalse_6 (val : Nat → Int) (h : Holds val [.at (.eq (.wrap .i64 (.shr (.wrap .u64 (.shl (.wrap .u64 (.a 0)) 56)) 56)) (.wrap .i64 (.add (.a 0) (.c 256)))) true, .le (.a 0) (-1), .le (.a 0) 255, .ge (.a 0) (-128), .at (.eq (.a 0) (.wrap .i64 (.shr (.wrap .u64 (.shl (.wrap .u64 (.a 0)) 56)) 56))) true, .is (.a 1) 8, .ge (.a 0) (-9223372036854775808), .le (.a 0) 9223372036854775807]) : ImmQ false val :=
  leafI h (by kernel_rfl)

theorem immFalse_7 (val : Nat → Int) (h : Holds val [.at (.eq (.wrap .i64 (.shr (.wrap .u64 (.shl (.wrap .u64 (.a 0)) 56)) 56)) (.wrap .i64 (.add (.a 0) (.c 256)))) false, .le (.a 0) (-1), .le (.a 0) 255, .ge (.a 0) (-128), .at (.eq (.a 0) (.wrap .i64 (.shr (.wrap .u64 (.shl (.wrap .u64 (.a 0)) 56)) 56))) true, .is (.a 1) 8, .ge (.a 0) (-9223372036854775808), .le (.a 0) 9223372036854775807]) : ImmQ false val := by
  exfalso
  have hb : Holds val (List.drop 6 _) := fun f hf => h f (List.mem_of_mem_drop hf)
  have ha : Holds val (List.take 1 _) := fun f hf => h f (List.mem_of_mem_take hf)
  have hc : Holds val (List.take 2 _) := fun f hf => h f (List.mem_of_mem_take hf)
  simp only [List.take_succ_cons, List.take_zero, List.drop_succ_cons, List.drop_zero, Holds, List.forall_mem_cons, List.not_mem_nil, false_implies, implies_true, and_true, Fact.holds, SB.eval, SX.eval, wrapU, wrapI, fdivP, tmodP, beq_iff_eq, beq_eq_false_iff_ne, decide_eq_true_eq, decide_eq_false_iff_not, ne_eq] at h ha hb hc
  simp only [Int.reducePow] at h ha hb hc
  first | (clear h hc; omega) | (clear h; omega) | omega

theorem immFalse_8 (val : Nat → Int) (h : Holds val [.at (.eq (.wrap .i64 (.shr (.wrap .u64 (.shl (.wrap .u64 (.a 0)) 56)) 56)) (.a 0)) true, .ge (.a 0) 0, .le (.a 0) 255, .ge (.a 0) (-128), .at (.eq (.a 0) (.wrap .i64 (.shr (.wrap .u64 (.shl (.wrap .u64 (.a 0)) 56)) 56))) true, .is (.a 1) 8, .ge (.a 0) (-9223372036854775808), .le (.a 0) 9223372036854775807]) : ImmQ false val :=
  leafI h (by kernel_rfl)

theorem immFalse_9 (val : Nat → Int) (h : Holds val [.at (.eq (.wrap .i64 (.shr (.wrap .u64 (.shl (.wrap .u64 (.a 0)) 56)) 56)) (.a 0)) false, .ge (.a 0) 0, .le (.a 0) 255, .ge (.a 0) (-128), .at (.eq (.a 0) (.wrap .i64 (.shr (.wrap .u64 (.shl (.wrap .u64 (.a 0)) 56)) 56))) true, .is (.a 1) 8, .ge (.a 0) (-9223372036854775808), .le (.a 0) 9223372036854775807]) : ImmQ false val := by
  exfalso
  have hb : Holds val (List.drop 6 _) := fun f hf => h f (List.mem_of_mem_drop hf)
  have ha : Holds val (List.take 1 _) := fun f hf => h f (List.mem_of_mem_take hf)
  have hc : Holds val (List.take 2 _) := fun f hf => h f (List.mem_of_mem_take hf)
  simp only [List.take_succ_cons, List.take_zero, List.drop_succ_cons, List.drop_zero, Holds, List.forall_mem_cons, List.not_mem_nil, false_implies, implies_true, and_true, Fact.holds, SB.eval, SX.eval, wrapU, wrapI, fdivP, tmodP, beq_iff_eq, beq_eq_false_iff_ne, decide_eq_true_eq, decide_eq_false_iff_not, ne_eq] at h ha hb hc
  simp only [Int.reducePow] at h ha hb hc
  first | (clear h hc; omega) | (clear h; omega) | omega

theorem immFalse_10 (val : Nat → Int) (h : Holds val [.is (.wrap .i64 (.shr (.wrap .u64 (.shl (.wrap .u64 (.a 0)) 56)) 56)) 0, .le (.a 0) (-129), .at (.eq (.a 0) (.shr (.wrap .i64 (.wrap .u64 (.shl (.wrap .u64 (.a 0)) 56))) 56)) true, .at (.eq (.a 0) (.wrap .i64 (.shr (.wrap .u64 (.shl (.wrap .u64 (.a 0)) 56)) 56))) false, .is (.a 1) 8, .ge (.a 0) (-9223372036854775808), .le (.a 0) 9223372036854775807]) : ImmQ false val := by
  exfalso
  have hb : Holds val (List.drop 5 _) := fun f hf => h f (List.mem_of_mem_drop hf)
  have ha : Holds val (List.take 1 _) := fun f hf => h f (List.mem_of_mem_take hf)
  have hc : Holds val (List.take 2 _) := fun f hf => h f (List.mem_of_mem_take hf)
  simp only [List.take_succ_cons, List.take_zero, List.drop_succ_cons, List.drop_zero, Holds, List.forall_mem_cons, List.not_mem_nil, false_implies, implies_true, and_true, Fact.holds, SB.eval, SX.eval, wrapU, wrapI, fdivP, tmodP, beq_iff_eq, beq_eq_false_iff_ne, decide_eq_true_eq, decide_eq_false_iff_not, ne_eq] at h ha hb hc
  simp only [Int.reducePow] at h ha hb hc
  first | (clear h hc; omega) | (clear h; omega) | omega

theorem immFalse_11 (val : Nat → Int) (h : Holds val [.ne (.wrap .i64 (.shr (.wrap .u64 (.shl (.wrap .u64 (.a 0)) 56)) 56)) 0, .le (.a 0) (-129), .at (.eq (.a 0) (.shr (.wrap .i64 (.wrap .u64 (.shl (.wrap .u64 (.a 0)) 56))) 56)) true, .at (.eq (.a 0) (.wrap .i64 (.shr (.wrap .u64 (.shl (.wrap .u64 (.a 0)) 56)) 56))) false, .is (.a 1) 8, .ge (.a 0) (-9223372036854775808), .le (.a 0) 9223372036854775807]) : ImmQ false val := by
  exfalso
  have hb : Holds val (List.drop 5 _) := fun f hf => h f (List.mem_of_mem_drop hf)
  have ha : Holds val (List.take 1 _) := fun f hf => h f (List.mem_of_mem_take hf)
  have hc : Holds val (List.take 2 _) := fun f hf => h f (List.mem_of_mem_take hf)
  simp only [List.take_succ_cons, List.take_zero, List.drop_succ_cons, List.drop_zero, Holds, List.forall_mem_cons, List.not_mem_nil, false_implies, implies_true, and_true, Fact.holds, SB.eval, SX.eval, wrapU, wrapI, fdivP, tmodP, beq_iff_eq, beq_eq_false_iff_ne, decide_eq_true_eq, decide_eq_false_iff_not, ne_eq] at h ha hb hc
  simp only [Int.reducePow] at h ha hb hc
  first | (clear h hc; omega) | (clear h; omega) | omega

theorem immFalse_12 (val : Nat → Int) (h : Holds val [.is (.wrap .i64 (.shr (.wrap .u64 (.shl (.wrap .u64 (.a 0)) 56)) 56)) 0, .ge (.a 0) 256, .ge (.a 0) (-128), .at (.eq (.a 0) (.shr (.wrap .i64 (.wrap .u64 (.shl (.wrap .u64 (.a 0)) 56))) 56)) true, .at (.eq (.a 0) (.wrap .i64 (.shr (.wrap .u64 (.shl (.wrap .u64 (.a 0)) 56)) 56))) false, .is (.a 1) 8, .ge (.a 0) (-9223372036854775808), .le (.a 0) 9223372036854775807]) : ImmQ false val := by
  exfalso
  have hb : Holds val (List.drop 6 _) := fun f hf => h f (List.mem_of_mem_drop hf)
  have ha : Holds val (List.take 1 _) := fun f hf => h f (List.mem_of_mem_take hf)
  have hc : Holds val (List.take 2 _) := fun f hf => h f (List.mem_of_mem_take hf)
  simp only [List.take_succ_cons, List.take_zero, List.drop_succ_cons, List.drop_zero, Holds, List.forall_mem_cons, List.not_mem_nil, false_implies, implies_true, and_true, Fact.holds, SB.eval, SX.eval, wrapU, wrapI, fdivP, tmodP, beq_iff_eq, beq_eq_false_iff_ne, decide_eq_true_eq, decide_eq_false_iff_not, ne_eq] at h ha hb hc
  simp only [Int.reducePow] at h ha hb hc
  first | (clear h hc; omega) | (clear h; omega) | omega

theorem immFalse_13 (val : Nat → Int) (h : Holds val [.ne (.wrap .i64 (.shr (.wrap .u64 (.shl (.wrap .u64 (.a 0)) 56)) 56)) 0, .ge (.a 0) 256, .ge (.a 0) (-128), .at (.eq (.a 0) (.shr (.wrap .i64 (.wrap .u64 (.shl (.wrap .u64 (.a 0)) 56))) 56)) true, .at (.eq (.a 0) (.wrap .i64 (.shr (.wrap .u64 (.shl (.wrap .u64 (.a 0)) 56)) 56))) false, .is (.a 1) 8, .ge (.a 0) (-9223372036854775808), .le (.a 0) 9223372036854775807]) : ImmQ false val := by
  exfalso
  have hb : Holds val (List.drop 6 _) := fun f hf => h f (List.mem_of_mem_drop hf)
  have ha : Holds val (List.take 1 _) := fun f hf => h f (List.mem_of_mem_take hf)
  have hc : Holds val (List.take 2 _) := fun f hf => h f (List.mem_of_mem_take hf)
  simp only [List.take_succ_cons, List.take_zero, List.drop_succ_cons, List.drop_zero, Holds, List.forall_mem_cons, List.not_mem_nil, false_implies, implies_true, and_true, Fact.holds, SB.eval, SX.eval, wrapU, wrapI, fdivP, tmodP, beq_iff_eq, beq_eq_false_iff_ne, decide_eq_true_eq, decide_eq_false_iff_not, ne_eq] at h ha hb hc
  simp only [Int.reducePow] at h ha hb hc
  first | (clear h hc; omega) | (clear h; omega) | omega

theorem immFalse_14 (val : Nat → Int) (h : Holds val [.at (.eq (.wrap .i64 (.shr (.wrap .u64 (.shl (.wrap .u64 (.a 0)) 56)) 56)) (.wrap .i64 (.add (.a 0) (.c 256)))) true, .le (.a 0) (-1), .le (.a 0) 255, .ge (.a 0) (-128), .at (.eq (.a 0) (.shr (.wrap .i64 (.wrap .u64 (.shl (.wrap .u64 (.a 0)) 56))) 56)) true, .at (.eq (.a 0) (.wrap .i64 (.shr (.wrap .u64 (.shl (.wrap .u64 (.a 0)) 56)) 56))) false, .is (.a 1) 8, .ge (.a 0) (-9223372036854775808), .le (.a 0) 9223372036854775807]) : ImmQ false val :=
  leafI h (by kernel_rfl)

theorem immFalse_15 (val : Nat → Int) (h : Holds val [.at (.eq (.wrap .i64 (.shr (.wrap .u64 (.shl (.wrap .u64 (.a 0)) 56)) 56)) (.wrap .i64 (.add (.a 0) (.c 256)))) false, .le (.a 0) (-1), .le (.a 0) 255, .ge (.a 0) (-128), .at (.eq (.a 0) (.shr (.wrap .i64 (.wrap .u64 (.shl (.wrap .u64 (.a 0)) 56))) 56)) true, .at (.eq (.a 0) (.wrap .i64 (.shr (.wrap .u64 (.shl (.wrap .u64 (.a 0)) 56)) 56))) false, .is (.a 1) 8, .ge (.a 0) (-9223372036854775808), .le (.a 0) 9223372036854775807]) : ImmQ false val := by
  exfalso
  have hb : Holds val (List.drop 7 _) := fun f hf => h f (List.mem_of_mem_drop hf)
  have ha : Holds val (List.take 1 _) := fun f hf => h f (List.mem_of_mem_take hf)
  have hc : Holds val (List.take 2 _) := fun f hf => h f (List.mem_of_mem_take hf)
  simp only [List.take_succ_cons, List.take_zero, List.drop_succ_cons, List.drop_zero, Holds, List.forall_mem_cons, List.not_mem_nil, false_implies, implies_true, and_true, Fact.holds, SB.eval, SX.eval, wrapU, wrapI, fdivP, tmodP, beq_iff_eq, beq_eq_false_iff_ne, decide_eq_true_eq, decide_eq_false_iff_not, ne_eq] at h ha hb hc
  simp only [Int.reducePow] at h ha hb hc
  first | (clear h hc; omega) | (clear h; omega) | omega

theorem immFalse_16 (val : Nat → Int) (h : Holds val [.at (.eq (.wrap .i64 (.shr (.wrap .u64 (.shl (.wrap .u64 (.a 0)) 56)) 56)) (.a 0)) true, .ge (.a 0) 0, .le (.a 0) 255, .ge (.a 0) (-128), .at (.eq (.a 0) (.shr (.wrap .i64 (.wrap .u64 (.shl (.wrap .u64 (.a 0)) 56))) 56)) true, .at (.eq (.a 0) (.wrap .i64 (.shr (.wrap .u64 (.shl (.wrap .u64 (.a 0)) 56)) 56))) false, .is (.a 1) 8, .ge (.a 0) (-9223372036854775808), .le (.a 0) 9223372036854775807]) : ImmQ false val :=
  leafI h (by kernel_rfl)

theorem immFalse_17 (val : Nat → Int) (h : Holds val [.at (.eq (.wrap .i64 (.shr (.wrap .u64 (.shl (.wrap .u64 (.a 0)) 56)) 56)) (.a 0)) false, .ge (.a 0) 0, .le (.a 0) 255, .ge (.a 0) (-128), .at (.eq (.a 0) (.shr (.wrap .i64 (.wrap .u64 (.shl (.wrap .u64 (.a 0)) 56))) 56)) true, .at (.eq (.a 0) (.wrap .i64 (.shr (.wrap .u64 (.shl (.wrap .u64 (.a 0)) 56)) 56))) false, .is (.a 1) 8, .ge (.a 0) (-9223372036854775808), .le (.a 0) 9223372036854775807]) : ImmQ false val := by
  exfalso
  have hb : Holds val (List.drop 7 _) := fun f hf => h f (List.mem_of_mem_drop hf)
  have ha : Holds val (List.take 1 _) := fun f hf => h f (List.mem_of_mem_take hf)
  have hc : Holds val (List.take 2 _) := fun f hf => h f (List.mem_of_mem_take hf)
  simp only [List.take_succ_cons, List.take_zero, List.drop_succ_cons, List.drop_zero, Holds, List.forall_mem_cons, List.not_mem_nil, false_implies, implies_true, and_true, Fact.holds, SB.eval, SX.eval, wrapU, wrapI, fdivP, tmodP, beq_iff_eq, beq_eq_false_iff_ne, decide_eq_true_eq, decide_eq_false_iff_not, ne_eq] at h ha hb hc
  simp only [Int.reducePow] at h ha hb hc
  first | (clear h hc; omega) | (clear h; omega) | omega

theorem immFalse_18 (val : Nat → Int) (h : Holds val [.le (.a 0) (-129), .at (.eq (.a 0) (.shr (.wrap .i64 (.wrap .u64 (.shl (.wrap .u64 (.a 0)) 56))) 56)) false, .at (.eq (.a 0) (.wrap .i64 (.shr (.wrap .u64 (.shl (.wrap .u64 (.a 0)) 56)) 56))) false, .is (.a 1) 8, .ge (.a 0) (-9223372036854775808), .le (.a 0) 9223372036854775807]) : ImmQ false val :=
  leafI h (by kernel_rfl)

theorem immFalse_19 (val : Nat → Int) (h : Holds val [.ge (.a 0) 256, .ge (.a 0) (-128), .at (.eq (.a 0) (.shr (.wrap .i64 (.wrap .u64 (.shl (.wrap .u64 (.a 0)) 56))) 56)) false, .at (.eq (.a 0) (.wrap .i64 (.shr (.wrap .u64 (.shl (.wrap .u64 (.a 0)) 56)) 56))) false, .is (.a 1) 8, .ge (.a 0) (-9223372036854775808), .le (.a 0) 9223372036854775807]) : ImmQ false val :=
  leafI h (by kernel_rfl)

theorem immFalse_20 (val : Nat → Int) (h : Holds val [.is (.wrap .i64 (.add (.a 0) (.c 256))) 0, .le (.a 0) (-1), .le (.a 0) 255, .ge (.a 0) (-128), .at (.eq (.a 0) (.shr (.wrap .i64 (.wrap .u64 (.shl (.wrap .u64 (.a 0)) 56))) 56)) false, .at (.eq (.a 0) (.wrap .i64 (.shr (.wrap .u64 (.shl (.wrap .u64 (.a 0)) 56)) 56))) false, .is (.a 1) 8, .ge (.a 0) (-9223372036854775808), .le (.a 0) 9223372036854775807]) : ImmQ false val := by
  exfalso
  have hb : Holds val (List.drop 7 _) := fun f hf => h f (List.mem_of_mem_drop hf)
  have ha : Holds val (List.take 1 _) := fun f hf => h f (List.mem_of_mem_take hf)
  have hc : Holds val (List.take 2 _) := fun f hf => h f (List.mem_of_mem_take hf)
  simp only [List.take_succ_cons, List.take_zero, List.drop_succ_cons, List.drop_zero, Holds, List.forall_mem_cons, List.not_mem_nil, false_implies, implies_true, and_true, Fact.holds, SB.eval, SX.eval, wrapU, wrapI, fdivP, tmodP, beq_iff_eq, beq_eq_false_iff_ne, decide_eq_true_eq, decide_eq_false_iff_not, ne_eq] at h ha hb hc
  simp only [Int.reducePow] at h ha hb hc
  first | (clear h hc; omega) | (clear h; omega) | omega

theorem immFalse_21 (val : Nat → Int) (h : Holds val [.ne (.wrap .i64 (.add (.a 0) (.c 256))) 0, .le (.a 0) (-1), .le (.a 0) 255, .ge (.a 0) (-128), .at (.eq (.a 0) (.shr (.wrap .i64 (.wrap .u64 (.shl (.wrap .u64 (.a 0)) 56))) 56)) false, .at (.eq (.a 0) (.wrap .i64 (.shr (.wrap .u64 (.shl (.wrap .u64 (.a 0)) 56)) 56))) false, .is (.a 1) 8, .ge (.a 0) (-9223372036854775808), .le (.a 0) 9223372036854775807]) : ImmQ false val := by
  exfalso
  have hb : Holds val (List.drop 7 _) := fun f hf => h f (List.mem_of_mem_drop hf)
  have ha : Holds val (List.take 1 _) := fun f hf => h f (List.mem_of_mem_take hf)
  have hc : Holds val (List.take 2 _) := fun f hf => h f (List.mem_of_mem_take hf)
  simp only [List.take_succ_cons, List.take_zero, List.drop_succ_cons, List.drop_zero, Holds, List.forall_mem_cons, List.not_mem_nil, false_implies, implies_true, and_true, Fact.holds, SB.eval, SX.eval, wrapU, wrapI, fdivP, tmodP, beq_iff_eq, beq_eq_false_iff_ne, decide_eq_true_eq, decide_eq_false_iff_not, ne_eq] at h ha hb hc
  simp only [Int.reducePow] at h ha hb hc
  first | (clear h hc; omega) | (clear h; omega) | omega

theorem immFalse_22 (val : Nat → Int) (h : Holds val [.is (.a 0) 0, .ge (.a 0) 0, .le (.a 0) 255, .ge (.a 0) (-128), .at (.eq (.a 0) (.shr (.wrap .i64 (.wrap .u64 (.shl (.wrap .u64 (.a 0)) 56))) 56)) false, .at (.eq (.a 0) (.wrap .i64 (.shr (.wrap .u64 (.shl (.wrap .u64 (.a 0)) 56)) 56))) false, .is (.a 1) 8, .ge (.a 0) (-9223372036854775808), .le (.a 0) 9223372036854775807]) : ImmQ false val :=
  leafI h (by kernel_rfl)

theorem immFalse_23 (val : Nat → Int) (h : Holds val [.ne (.a 0) 0, .ge (.a 0) 0, .le (.a 0) 255, .ge (.a 0) (-128), .at (.eq (.a 0) (.shr (.wrap .i64 (.wrap .u64 (.shl (.wrap .u64 (.a 0)) 56))) 56)) false, .at (.eq (.a 0) (.wrap .i64 (.shr (.wrap .u64 (.shl (.wrap .u64 (.a 0)) 56)) 56))) false, .is (.a 1) 8, .ge (.a 0) (-9223372036854775808), .le (.a 0) 9223372036854775807]) : ImmQ false val := by
  exfalso
  have hb : Holds val (List.drop 7 _) := fun f hf => h f (List.mem_of_mem_drop hf)
  have ha : Holds val (List.take 1 _) := fun f hf => h f (List.mem_of_mem_take hf)
  have hc : Holds val (List.take 2 _) := fun f hf => h f (List.mem_of_mem_take hf)
  simp only [List.take_succ_cons, List.take_zero, List.drop_succ_cons, List.drop_zero, Holds, List.forall_mem_cons, List.not_mem_nil, false_implies, implies_true, and_true, Fact.holds, SB.eval, SX.eval, wrapU, wrapI, fdivP, tmodP, beq_iff_eq, beq_eq_false_iff_ne, decide_eq_true_eq, decide_eq_false_iff_not, ne_eq] at h ha hb hc
  simp only [Int.reducePow] at h ha hb hc
  first | (clear h hc; omega) | (clear h; omega) | omega

theorem immFalse_24 (val : Nat → Int) (h : Holds val [.at (.eq (.a 0) (.shr (.wrap .i64 (.wrap .u64 (.shl (.wrap .u64 (.a 0)) 48))) 48)) true, .is (.wrap .i64 (.shr (.wrap .u64 (.shl (.wrap .u64 (.a 0)) 48)) 48)) 0, .le (.a 0) (-32769), .at (.eq (.a 0) (.wrap .i64 (.shr (.wrap .u64 (.shl (.wrap .u64 (.a 0)) 48)) 48))) true, .is (.a 1) 16, .ne (.a 1) 8, .ge (.a 0) (-9223372036854775808), .le (.a 0) 9223372036854775807]) : ImmQ false val := by
  exfalso
  have hb : Holds val (List.drop 6 _) := fun f hf => h f (List.mem_of_mem_drop hf)
  have ha : Holds val (List.take 1 _) := fun f hf => h f (List.mem_of_mem_take hf)
  have hc : Holds val (List.take 2 _) := fun f hf => h f (List.mem_of_mem_take hf)
  simp only [List.take_succ_cons, List.take_zero, List.drop_succ_cons, List.drop_zero, Holds, List.forall_mem_cons, List.not_mem_nil, false_implies, implies_true, and_true, Fact.holds, SB.eval, SX.eval, wrapU, wrapI, fdivP, tmodP, beq_iff_eq, beq_eq_false_iff_ne, decide_eq_true_eq, decide_eq_false_iff_not, ne_eq] at h ha hb hc
  simp only [Int.reducePow] at h ha hb hc
  first | (clear h hc; omega) | (clear h; omega) | omega

theorem immFalse_25 (val : Nat → Int) (h : Holds val [.at (.eq (.a 0) (.shr (.wrap .i64 (.wrap .u64 (.shl (.wrap .u64 (.a 0)) 48))) 48)) false, .is (.wrap .i64 (.shr (.wrap .u64 (.shl (.wrap .u64 (.a 0)) 48)) 48)) 0, .le (.a 0) (-32769), .at (.eq (.a 0) (.wrap .i64 (.shr (.wrap .u64 (.shl (.wrap .u64 (.a 0)) 48)) 48))) true, .is (.a 1) 16, .ne (.a 1) 8, .ge (.a 0) (-9223372036854775808), .le (.a 0) 9223372036854775807]) : ImmQ false val :=
  leafI h (by kernel_rfl)

theorem immFalse_26 (val : Nat → Int) (h : Holds val [.ne (.wrap .i64 (.shr (.wrap .u64 (.shl (.wrap .u64 (.a 0)) 48)) 48)) 0, .le (.a 0) (-32769), .at (.eq (.a 0) (.wrap .i64 (.shr (.wrap .u64 (.shl (.wrap .u64 (.a 0)) 48)) 48))) true, .is (.a 1) 16, .ne (.a 1) 8, .ge (.a 0) (-9223372036854775808), .le (.a 0) 9223372036854775807]) : ImmQ false val := by
  exfalso
  have hb : Holds val (List.drop 5 _) := fun f hf => h f (List.mem_of_mem_drop hf)
  have ha : Holds val (List.take 1 _) := fun f hf => h f (List.mem_of_mem_take hf)
  have hc : Holds val (List.take 2 _) := fun f hf => h f (List.mem_of_mem_take hf)
  simp only [List.take_succ_cons, List.take_zero, List.drop_succ_cons, List.drop_zero, Holds, List.forall_mem_cons, List.not_mem_nil, false_implies, implies_true, and_true, Fact.holds, SB.eval, SX.eval, wrapU, wrapI, fdivP, tmodP, beq_iff_eq, beq_eq_false_iff_ne, decide_eq_true_eq, decide_eq_false_iff_not, ne_eq] at h ha hb hc
  simp only [Int.reducePow] at h ha hb hc
  first | (clear h hc; omega) | (clear h; omega) | omega

theorem immFalse_27 (val : Nat → Int) (h : Holds val [.at (.eq (.a 0) (.shr (.wrap .i64 (.wrap .u64 (.shl (.wrap .u64 (.a 0)) 48))) 48)) true, .is (.wrap .i64 (.shr (.wrap .u64 (.shl (.wrap .u64 (.a 0)) 48)) 48)) 0, .ge (.a 0) 65536, .ge (.a 0) (-32768), .at (.eq (.a 0) (.wrap .i64 (.shr (.wrap .u64 (.shl (.wrap .u64 (.a 0)) 48)) 48))) true, .is (.a 1) 16, .ne (.a 1) 8, .ge (.a 0) (-9223372036854775808), .le (.a 0) 9223372036854775807]) : ImmQ false val := by
  exfalso
  have hb : Holds val (List.drop 7 _) := fun f hf => h f (List.mem_of_mem_drop hf)
  have ha : Holds val (List.take 1 _) := fun f hf => h f (List.mem_of_mem_take hf)
  have hc : Holds val (List.take 2 _) := fun f hf => h f (List.mem_of_mem_take hf)
  simp only [List.take_succ_cons, List.take_zero, List.drop_succ_cons, List.drop_zero, Holds, List.forall_mem_cons, List.not_mem_nil, false_implies, implies_true, and_true, Fact.holds, SB.eval, SX.eval, wrapU, wrapI, fdivP, tmodP, beq_iff_eq, beq_eq_false_iff_ne, decide_eq_true_eq, decide_eq_false_iff_not, ne_eq] at h ha hb hc
  simp only [Int.reducePow] at h ha hb hc
  first | (clear h hc; omega) | (clear h; omega) | omega

theorem immFalse_28 (val : Nat → Int) (h : Holds val [.at (.eq (.a 0) (.shr (.wrap .i64 (.wrap .u64 (.shl (.wrap .u64 (.a 0)) 48))) 48)) false, .is (.wrap .i64 (.shr (.wrap .u64 (.shl (.wrap .u64 (.a 0)) 48)) 48)) 0, .ge (.a 0) 65536, .ge (.a 0) (-32768), .at (.eq (.a 0) (.wrap .i64 (.shr (.wrap .u64 (.shl (.wrap .u64 (.a 0)) 48)) 48))) true, .is (.a 1) 16, .ne (.a 1) 8, .ge (.a 0) (-9223372036854775808), .le (.a 0) 9223372036854775807]) : ImmQ false val :=
  leafI h (by kernel_rfl)

theorem immFalse_29 (val : Nat → Int) (h : Holds val [.ne (.wrap .i64 (.shr (.wrap .u64 (.shl (.wrap .u64 (.a 0)) 48)) 48)) 0, .ge (.a 0) 65536, .ge (.a 0) (-32768), .at (.eq (.a 0) (.wrap .i64 (.shr (.wrap .u64 (.shl (.wrap .u64 (.a 0)) 48)) 48))) true, .is (.a 1) 16, .ne (.a 1) 8, .ge (.a 0) (-9223372036854775808), .le (.a 0) 9223372036854775807]) : ImmQ false val := by
  exfalso
  have hb : Holds val (List.drop 6 _) := fun f hf => h f (List.mem_of_mem_drop hf)
  have ha : Holds val (List.take 1 _) := fun f hf => h f (List.mem_of_mem_take hf)
  have hc : Holds val (List.take 2 _) := fun f hf => h f (List.mem_of_mem_take hf)
  simp only [List.take_succ_cons, List.take_zero, List.drop_succ_cons, List.drop_zero, Holds, List.forall_mem_cons, List.not_mem_nil, false_implies, implies_true, and_true, Fact.holds, SB.eval, SX.eval, wrapU, wrapI, fdivP, tmodP, beq_iff_eq, beq_eq_false_iff_ne, decide_eq_true_eq, decide_eq_false_iff_not, ne_eq] at h ha hb hc
  simp only [Int.reducePow] at h ha hb hc
  first | (clear h hc; omega) | (clear h; omega) | omega

theorem immFalse_30 (val : Nat → Int) (h : Holds val [.at (.eq (.wrap .i64 (.shr (.wrap .u64 (.shl (.wrap .u64 (.a 0)) 48)) 48)) (.wrap .i64 (.add (.a 0) (.c 65536)))) true, .le (.a 0) (-1), .le (.a 0) 65535, .ge (.a 0) (-32768), .at (.eq (.a 0) (.wrap .i64 (.shr (.wrap .u64 (.shl (.wrap .u64 (.a 0)) 48)) 48))) true, .is (.a 1) 16, .ne (.a 1) 8, .ge (.a 0) (-9223372036854775808), .le (.a 0) 9223372036854775807]) : ImmQ false val :=
  leafI h (by kernel_rfl)

theorem immFalse_31 (val : Nat → Int) (h : Holds val [.at (.eq (.wrap .i64 (.shr (.wrap .u64 (.shl (.wrap .u64 (.a 0)) 48)) 48)) (.wrap .i64 (.add (.a 0) (.c 65536)))) false, .le (.a 0) (-1), .le (.a 0) 65535, .ge (.a 0) (-32768), .at (.eq (.a 0) (.wrap .i64 (.shr (.wrap .u64 (.shl (.wrap .u64 (.a 0)) 48)) 48))) true, .is (.a 1) 16, .ne (.a 1) 8, .ge (.a 0) (-9223372036854775808), .le (.a 0) 9223372036854775807]) : ImmQ false val := by
  exfalso
  have hb : Holds val (List.drop 7 _) := fun f hf => h f (List.mem_of_mem_drop hf)
  have ha : Holds val (List.take 1 _) := fun f hf => h f (List.mem_of_mem_take hf)
  have hc : Holds val (List.take 2 _) := fun f hf => h f (List.mem_of_mem_take hf)
  simp only [List.take_succ_cons, List.take_zero, List.drop_succ_cons, List.drop_zero, Holds, List.forall_mem_cons, List.not_mem_nil, false_implies, implies_true, and_true, Fact.holds, SB.eval, SX.eval, wrapU, wrapI, fdivP, tmodP, beq_iff_eq, beq_eq_false_iff_ne, decide_eq_true_eq, decide_eq_false_iff_not, ne_eq] at h ha hb hc
  simp only [Int.reducePow] at h ha hb hc
  first | (clear h hc; omega) | (clear h; omega) | omega

theorem immFalse_32 (val : Nat → Int) (h : Holds val [.at (.eq (.wrap .i64 (.shr (.wrap .u64 (.shl (.wrap .u64 (.a 0)) 48)) 48)) (.a 0)) true, .ge (.a 0) 0, .le (.a 0) 65535, .ge (.a 0) (-32768), .at (.eq (.a 0) (.wrap .i64 (.shr (.wrap .u64 (.shl (.wrap .u64 (.a 0)) 48)) 48))) true, .is (.a 1) 16, .ne (.a 1) 8, .ge (.a 0) (-9223372036854775808), .le (.a 0) 9223372036854775807]) : ImmQ false val :=
  leafI h (by kernel_rfl)

theorem immFalse_33 (val : Nat → Int) (h : Holds val [.at (.eq (.wrap .i64 (.shr (.wrap .u64 (.shl (.wrap .u64 (.a 0)) 48)) 48)) (.a 0)) false, .ge (.a 0) 0, .le (.a 0) 65535, .ge (.a 0) (-32768), .at (.eq (.a 0) (.wrap .i64 (.shr (.wrap .u64 (.shl (.wrap .u64 (.a 0)) 48)) 48))) true, .is (.a 1) 16, .ne (.a 1) 8, .ge (.a 0) (-9223372036854775808), .le (.a 0) 9223372036854775807]) : ImmQ false val := by
  exfalso
  have hb : Holds val (List.drop 7 _) := fun f hf => h f (List.mem_of_mem_drop hf)
  have ha : Holds val (List.take 1 _) := fun f hf => h f (List.mem_of_mem_take hf)
  have hc : Holds val (List.take 2 _) := fun f hf => h f (List.mem_of_mem_take hf)
  simp only [List.take_succ_cons, List.take_zero, List.drop_succ_cons, List.drop_zero, Holds, List.forall_mem_cons, List.not_mem_nil, false_implies, implies_true, and_true, Fact.holds, SB.eval, SX.eval, wrapU, wrapI, fdivP, tmodP, beq_iff_eq, beq_eq_false_iff_ne, decide_eq_true_eq, decide_eq_false_iff_not, ne_eq] at h ha hb hc
  simp only [Int.reducePow] at h ha hb hc
  first | (clear h hc; omega) | (clear h; omega) | omega

theorem immFalse_34 (val : Nat → Int) (h : Holds val [.is (.wrap .i64 (.shr (.wrap .u64 (.shl (.wrap .u64 (.a 0)) 48)) 48)) 0, .le (.a 0) (-32769), .at (.eq (.a 0) (.shr (.wrap .i64 (.wrap .u64 (.shl (.wrap .u64 (.a 0)) 48))) 48)) true, .at (.eq (.a 0) (.wrap .i64 (.shr (.wrap .u64 (.shl (.wrap .u64 (.a 0)) 48)) 48))) false, .is (.a 1) 16, .ne (.a 1) 8, .ge (.a 0) (-9223372036854775808), .le (.a 0) 9223372036854775807]) : ImmQ false val := by
  exfalso
  have hb : Holds val (List.drop 6 _) := fun f hf => h f (List.mem_of_mem_drop hf)
  have ha : Holds val (List.take 1 _) := fun f hf => h f (List.mem_of_mem_take hf)
  have hc : Holds val (List.take 2 _) := fun f hf => h f (List.mem_of_mem_take hf)
  simp only [List.take_succ_cons, List.take_zero, List.drop_succ_cons, List.drop_zero, Holds, List.forall_mem_cons, List.not_mem_nil, false_implies, implies_true, and_true, Fact.holds, SB.eval, SX.eval, wrapU, wrapI, fdivP, tmodP, beq_iff_eq, beq_eq_false_iff_ne, decide_eq_true_eq, decide_eq_false_iff_not, ne_eq] at h ha hb hc
  simp only [Int.reducePow] at h ha hb hc
  first | (clear h hc; omega) | (clear h; omega) | omega

theorem immFalse_35 (val : Nat → Int) (h : Holds val [.ne (.wrap .i64 (.shr (.wrap .u64 (.shl (.wrap .u64 (.a 0)) 48)) 48)) 0, .le (.a 0) (-32769), .at (.eq (.a 0) (.shr (.wrap .i64 (.wrap .u64 (.shl (.wrap .u64 (.a 0)) 48))) 48)) true, .at (.eq (.a 0) (.wrap .i64 (.shr (.wrap .u64 (.shl (.wrap .u64 (.a 0)) 48)) 48))) false, .is (.a 1) 16, .ne (.a 1) 8, .ge (.a 0) (-9223372036854775808), .le (.a 0) 9223372036854775807]) : ImmQ false val := by
  exfalso
  have hb : Holds val (List.drop 6 _) := fun f hf => h f (List.mem_of_mem_drop hf)
  have ha : Holds val (List.take 1 _) := fun f hf => h f (List.mem_of_mem_take hf)
  have hc : Holds val (List.take 2 _) := fun f hf => h f (List.mem_of_mem_take hf)
  simp only [List.take_succ_cons, List.take_zero, List.drop_succ_cons, List.drop_zero, Holds, List.forall_mem_cons, List.not_mem_nil, false_implies, implies_true, and_true, Fact.holds, SB.eval, SX.eval, wrapU, wrapI, fdivP, tmodP, beq_iff_eq, beq_eq_false_iff_ne, decide_eq_true_eq, decide_eq_false_iff_not, ne_eq] at h ha hb hc
  simp only [Int.reducePow] at h ha hb hc
  first | (clear h hc; omega) | (clear h; omega) | omega

theorem immFalse_36 (val : Nat → Int) (h : Holds val [.is (.wrap .i64 (.shr (.wrap .u64 (.shl (.wrap .u64 (.a 0)) 48)) 48)) 0, .ge (.a 0) 65536, .ge (.a 0) (-32768), .at (.eq (.a 0) (.shr (.wrap .i64 (.wrap .u64 (.shl (.wrap .u64 (.a 0)) 48))) 48)) true, .at (.eq (.a 0) (.wrap .i64 (.shr (.wrap .u64 (.shl (.wrap .u64 (.a 0)) 48)) 48))) false, .is (.a 1) 16, .ne (.a 1) 8, .ge (.a 0) (-9223372036854775808), .le (.a 0) 9223372036854775807]) : ImmQ false val := by
  exfalso
  have hb : Holds val (List.drop 7 _) := fun f hf => h f (List.mem_of_mem_drop hf)
  have ha : Holds val (List.take 1 _) := fun f hf => h f (List.mem_of_mem_take hf)
  have hc : Holds val (List.take 2 _) := fun f hf => h f (List.mem_of_mem_take hf)
  simp only [List.take_succ_cons, List.take_zero, List.drop_succ_cons, List.drop_zero, Holds, List.forall_mem_cons, List.not_mem_nil, false_implies, implies_true, and_true, Fact.holds, SB.eval, SX.eval, wrapU, wrapI, fdivP, tmodP, beq_iff_eq, beq_eq_false_iff_ne, decide_eq_true_eq, decide_eq_false_iff_not, ne_eq] at h ha hb hc
  simp only [Int.reducePow] at h ha hb hc
  first | (clear h hc; omega) | (clear h; omega) | omega

theorem immFalse_37 (val : Nat → Int) (h : Holds val [.ne (.wrap .i64 (.shr (.wrap .u64 (.shl (.wrap .u64 (.a 0)) 48)) 48)) 0, .ge (.a 0) 65536, .ge (.a 0) (-32768), .at (.eq (.a 0) (.shr (.wrap .i64 (.wrap .u64 (.shl (.wrap .u64 (.a 0)) 48))) 48)) true, .at (.eq (.a 0) (.wrap .i64 (.shr (.wrap .u64 (.shl (.wrap .u64 (.a 0)) 48)) 48))) false, .is (.a 1) 16, .ne (.a 1) 8, .ge (.a 0) (-9223372036854775808), .le (.a 0) 9223372036854775807]) : ImmQ false val := by
  exfalso
  have hb : Holds val (List.drop 7 _) := fun f hf => h f (List.mem_of_mem_drop hf)
  have ha : Holds val (List.take 1 _) := fun f hf => h f (List.mem_of_mem_take hf)
  have hc : Holds val (List.take 2 _) := fun f hf => h f (List.mem_of_mem_take hf)
  simp only [List.take_succ_cons, List.take_zero, List.drop_succ_cons, List.drop_zero, Holds, List.forall_mem_cons, List.not_mem_nil, false_implies, implies_true, and_true, Fact.holds, SB.eval, SX.eval, wrapU, wrapI, fdivP, tmodP, beq_iff_eq, beq_eq_false_iff_ne, decide_eq_true_eq, decide_eq_false_iff_not, ne_eq] at h ha hb hc
  simp only [Int.reducePow] at h ha hb hc
  first | (clear h hc; omega) | (clear h; omega) | omega

theorem immFalse_38 (val : Nat → Int) (h : Holds val [.at (.eq (.wrap .i64 (.shr (.wrap .u64 (.shl (.wrap .u64 (.a 0)) 48)) 48)) (.wrap .i64 (.add (.a 0) (.c 65536)))) true, .le (.a 0) (-1), .le (.a 0) 65535, .ge (.a 0) (-32768), .at (.eq (.a 0) (.shr (.wrap .i64 (.wrap .u64 (.shl (.wrap .u64 (.a 0)) 48))) 48)) true, .at (.eq (.a 0) (.wrap .i64 (.shr (.wrap .u64 (.shl (.wrap .u64 (.a 0)) 48)) 48))) false, .is (.a 1) 16, .ne (.a 1) 8, .ge (.a 0) (-9223372036854775808), .le (.a 0) 9223372036854775807]) : ImmQ false val :=
  leafI h (by kernel_rfl)

theorem immFalse_39 (val : Nat → Int) (h : Holds val [.at (.eq (.wrap .i64 (.shr (.wrap .u64 (.shl (.wrap .u64 (.a 0)) 48)) 48)) (.wrap .i64 (.add (.a 0) (.c 65536)))) false, .le (.a 0) (-1), .le (.a 0) 65535, .ge (.a 0) (-32768), .at (.eq (.a 0) (.shr (.wrap .i64 (.wrap .u64 (.shl (.wrap .u64 (.a 0)) 48))) 48)) true, .at (.eq (.a 0) (.wrap .i64 (.shr (.wrap .u64 (.shl (.wrap .u64 (.a 0)) 48)) 48))) false, .is (.a 1) 16, .ne (.a 1) 8, .ge (.a 0) (-9223372036854775808), .le (.a 0) 9223372036854775807]) : ImmQ false val := by
  exfalso
  have hb : Holds val (List.drop 8 _) := fun f hf => h f (List.mem_of_mem_drop hf)
  have ha : Holds val (List.take 1 _) := fun f hf => h f (List.mem_of_mem_take hf)
  have hc : Holds val (List.take 2 _) := fun f hf => h f (List.mem_of_mem_take hf)
  simp only [List.take_succ_cons, List.take_zero, List.drop_succ_cons, List.drop_zero, Holds, List.forall_mem_cons, List.not_mem_nil, false_implies, implies_true, and_true, Fact.holds, SB.eval, SX.eval, wrapU, wrapI, fdivP, tmodP, beq_iff_eq, beq_eq_false_iff_ne, decide_eq_true_eq, decide_eq_false_iff_not, ne_eq] at h ha hb hc
  simp only [Int.reducePow] at h ha hb hc
  first | (clear h hc; omega) | (clear h; omega) | omega

theorem immFalse_40 (val : Nat → Int) (h : Holds val [.at (.eq (.wrap .i64 (.shr (.wrap .u64 (.shl (.wrap .u64 (.a 0)) 48)) 48)) (.a 0)) true, .ge (.a 0) 0, .le (.a 0) 65535, .ge (.a 0) (-32768), .at (.eq (.a 0) (.shr (.wrap .i64 (.wrap .u64 (.shl (.wrap .u64 (.a 0)) 48))) 48)) true, .at (.eq (.a 0) (.wrap .i64 (.shr (.wrap .u64 (.shl (.wrap .u64 (.a 0)) 48)) 48))) false, .is (.a 1) 16, .ne (.a 1) 8, .ge (.a 0) (-9223372036854775808), .le (.a 0) 9223372036854775807]) : ImmQ false val :=
  leafI h (by kernel_rfl)

theorem immFalse_41 (val : Nat → Int) (h : Holds val [.at (.eq (.wrap .i64 (.shr (.wrap .u64 (.shl (.wrap .u64 (.a 0)) 48)) 48)) (.a 0)) false, .ge (.a 0) 0, .le (.a 0) 65535, .ge (.a 0) (-32768), .at (.eq (.a 0) (.shr (.wrap .i64 (.wrap .u64 (.shl (.wrap .u64 (.a 0)) 48))) 48)) true, .at (.eq (.a 0) (.wrap .i64 (.shr (.wrap .u64 (.shl (.wrap .u64 (.a 0)) 48)) 48))) false, .is (.a 1) 16, .ne (.a 1) 8, .ge (.a 0) (-9223372036854775808), .le (.a 0) 9223372036854775807]) : ImmQ false val := by
  exfalso
  have hb : Holds val (List.drop 8 _) := fun f hf => h f (List.mem_of_mem_drop hf)
  have ha : Holds val (List.take 1 _) := fun f hf => h f (List.mem_of_mem_take hf)
  have hc : Holds val (List.take 2 _) := fun f hf => h f (List.mem_of_mem_take hf)
  simp only [List.take_succ_cons, List.take_zero, List.drop_succ_cons, List.drop_zero, Holds, List.forall_mem_cons, List.not_mem_nil, false_implies, implies_true, and_true, Fact.holds, SB.eval, SX.eval, wrapU, wrapI, fdivP, tmodP, beq_iff_eq, beq_eq_false_iff_ne, decide_eq_true_eq, decide_eq_false_iff_not, ne_eq] at h ha hb hc
  simp only [Int.reducePow] at h ha hb hc
  first | (clear h hc; omega) | (clear h; omega) | omega

theorem immFalse_42 (val : Nat → Int) (h : Holds val [.le (.a 0) (-32769), .at (.eq (.a 0) (.shr (.wrap .i64 (.wrap .u64 (.shl (.wrap .u64 (.a 0)) 48))) 48)) false, .at (.eq (.a 0) (.wrap .i64 (.shr (.wrap .u64 (.shl (.wrap .u64 (.a 0)) 48)) 48))) false, .is (.a 1) 16, .ne (.a 1) 8, .ge (.a 0) (-9223372036854775808), .le (.a 0) 9223372036854775807]) : ImmQ false val :=
  leafI h (by kernel_rfl)

theorem immFalse_43 (val : Nat → Int) (h : Holds val [.ge (.a 0) 65536, .ge (.a 0) (-32768), .at (.eq (.a 0) (.shr (.wrap .i64 (.wrap .u64 (.shl (.wrap .u64 (.a 0)) 48))) 48)) false, .at (.eq (.a 0) (.wrap .i64 (.shr (.wrap .u64 (.shl (.wrap .u64 (.a 0)) 48)) 48))) false, .is (.a 1) 16, .ne (.a 1) 8, .ge (.a 0) (-9223372036854775808), .le (.a 0) 9223372036854775807]) : ImmQ false val :=
  leafI h (by kernel_rfl)

theorem immFalse_44 (val : Nat → Int) (h : Holds val [.is (.wrap .i64 (.add (.a 0) (.c 65536))) 0, .le (.a 0) (-1), .le (.a 0) 65535, .ge (.a 0) (-32768), .at (.eq (.a 0) (.shr (.wrap .i64 (.wrap .u64 (.shl (.wrap .u64 (.a 0)) 48))) 48)) false, .at (.eq (.a 0) (.wrap .i64 (.shr (.wrap .u64 (.shl (.wrap .u64 (.a 0)) 48)) 48))) false, .is (.a 1) 16, .ne (.a 1) 8, .ge (.a 0) (-9223372036854775808), .le (.a 0) 9223372036854775807]) : ImmQ false val := by
  exfalso
  have hb : Holds val (List.drop 8 _) := fun f hf => h f (List.mem_of_mem_drop hf)
  have ha : Holds val (List.take 1 _) := fun f hf => h f (List.mem_of_mem_take hf)
  have hc : Holds val (List.take 2 _) := fun f hf => h f (List.mem_of_mem_take hf)
  simp only [List.take_succ_cons, List.take_zero, List.drop_succ_cons, List.drop_zero, Holds, List.forall_mem_cons, List.not_mem_nil, false_implies, implies_true, and_true, Fact.holds, SB.eval, SX.eval, wrapU, wrapI, fdivP, tmodP, beq_iff_eq, beq_eq_false_iff_ne, decide_eq_true_eq, decide_eq_false_iff_not, ne_eq] at h ha hb hc
  simp only [Int.reducePow] at h ha hb hc
  first | (clear h hc; omega) | (clear h; omega) | omega

theorem immFalse_45 (val : Nat → Int) (h : Holds val [.ne (.wrap .i64 (.add (.a 0) (.c 65536))) 0, .le (.a 0) (-1), .le (.a 0) 65535, .ge (.a 0) (-32768), .at (.eq (.a 0) (.shr (.wrap .i64 (.wrap .u64 (.shl (.wrap .u64 (.a 0)) 48))) 48)) false, .at (.eq (.a 0) (.wrap .i64 (.shr (.wrap .u64 (.shl (.wrap .u64 (.a 0)) 48)) 48))) false, .is (.a 1) 16, .ne (.a 1) 8, .ge (.a 0) (-9223372036854775808), .le (.a 0) 9223372036854775807]) : ImmQ false val := by
  exfalso
  have hb : Holds val (List.drop 8 _) := fun f hf => h f (List.mem_of_mem_drop hf)
  have ha : Holds val (List.take 1 _) := fun f hf => h f (List.mem_of_mem_take hf)
  have hc : Holds val (List.take 2 _) := fun f hf => h f (List.mem_of_mem_take hf)
  simp only [List.take_succ_cons, List.take_zero, List.drop_succ_cons, List.drop_zero, Holds, List.forall_mem_cons, List.not_mem_nil, false_implies, implies_true, and_true, Fact.holds, SB.eval, SX.eval, wrapU, wrapI, fdivP, tmodP, beq_iff_eq, beq_eq_false_iff_ne, decide_eq_true_eq, decide_eq_false_iff_not, ne_eq] at h ha hb hc
  simp only [Int.reducePow] at h ha hb hc
  first | (clear h hc; omega) | (clear h; omega) | omega

theorem immFalse_46 (val : Nat → Int) (h : Holds val [.is (.a 0) 0, .ge (.a 0) 0, .le (.a 0) 65535, .ge (.a 0) (-32768), .at (.eq (.a 0) (.shr (.wrap .i64 (.wrap .u64 (.shl (.wrap .u64 (.a 0)) 48))) 48)) false, .at (.eq (.a 0) (.wrap .i64 (.shr (.wrap .u64 (.shl (.wrap .u64 (.a 0)) 48)) 48))) false, .is (.a 1) 16, .ne (.a 1) 8, .ge (.a 0) (-9223372036854775808), .le (.a 0) 9223372036854775807]) : ImmQ false val :=
  leafI h (by kernel_rfl)

theorem immFalse_47 (val : Nat → Int) (h : Holds val [.ne (.a 0) 0, .ge (.a 0) 0, .le (.a 0) 65535, .ge (.a 0) (-32768), .at (.eq (.a 0) (.shr (.wrap .i64 (.wrap .u64 (.shl (.wrap .u64 (.a 0)) 48))) 48)) false, .at (.eq (.a 0) (.wrap .i64 (.shr (.wrap .u64 (.shl (.wrap .u64 (.a 0)) 48)) 48))) false, .is (.a 1) 16, .ne (.a 1) 8, .ge (.a 0) (-9223372036854775808), .le (.a 0) 9223372036854775807]) : ImmQ false val := by
  exfalso
  have hb : Holds val (List.drop 8 _) := fun f hf => h f (List.mem_of_mem_drop hf)
  have ha : Holds val (List.take 1 _) := fun f hf => h f (List.mem_of_mem_take hf)
  have hc : Holds val (List.take 2 _) := fun f hf => h f (List.mem_of_mem_take hf)
  simp only [List.take_succ_cons, List.take_zero, List.drop_succ_cons, List.drop_zero, Holds, List.forall_mem_cons, List.not_mem_nil, false_implies, implies_true, and_true, Fact.holds, SB.eval, SX.eval, wrapU, wrapI, fdivP, tmodP, beq_iff_eq, beq_eq_false_iff_ne, decide_eq_true_eq, decide_eq_false_iff_not, ne_eq] at h ha hb hc
  simp only [Int.reducePow] at h ha hb hc
  first | (clear h hc; omega) | (clear h; omega) | omega

theorem immFalse_48 (val : Nat → Int) (h : Holds val [.at (.eq (.a 0) (.shr (.wrap .i64 (.wrap .u64 (.shl (.wrap .u64 (.a 0)) 32))) 32)) true, .is (.wrap .i64 (.shr (.wrap .u64 (.shl (.wrap .u64 (.a 0)) 32)) 32)) 0, .le (.a 0) (-2147483649), .at (.eq (.a 0) (.wrap .i64 (.shr (.wrap .u64 (.shl (.wrap .u64 (.a 0)) 32)) 32))) true, .is (.a 1) 32, .ne (.a 1) 16, .ne (.a 1) 8, .ge (.a 0) (-9223372036854775808), .le (.a 0) 9223372036854775807]) : ImmQ false val := by
  exfalso
  have hb : Holds val (List.drop 7 _) := fun f hf => h f (List.mem_of_mem_drop hf)
  have ha : Holds val (List.take 1 _) := fun f hf => h f (List.mem_of_mem_take hf)
  have hc : Holds val (List.take 2 _) := fun f hf => h f (List.mem_of_mem_take hf)
  simp only [List.take_succ_cons, List.take_zero, List.drop_succ_cons, List.drop_zero, Holds, List.forall_mem_cons, List.not_mem_nil, false_implies, implies_true, and_true, Fact.holds, SB.eval, SX.eval, wrapU, wrapI, fdivP, tmodP, beq_iff_eq, beq_eq_false_iff_ne, decide_eq_true_eq, decide_eq_false_iff_not, ne_eq] at h ha hb hc
  simp only [Int.reducePow] at h ha hb hc
  first | (clear h hc; omega) | (clear h; omega) | omega

theorem immFalse_49 (val : Nat → Int) (h : Holds val [.at (.eq (.a 0) (.shr (.wrap .i64 (.wrap .u64 (.shl (.wrap .u64 (.a 0)) 32))) 32)) false, .is (.wrap .i64 (.shr (.wrap .u64 (.shl (.wrap .u64 (.a 0)) 32)) 32)) 0, .le (.a 0) (-2147483649), .at (.eq (.a 0) (.wrap .i64 (.shr (.wrap .u64 (.shl (.wrap .u64 (.a 0)) 32)) 32))) true, .is (.a 1) 32, .ne (.a 1) 16, .ne (.a 1) 8, .ge (.a 0) (-9223372036854775808), .le (.a 0) 9223372036854775807]) : ImmQ false val :=
  leafI h (by kernel_rfl)

theorem immFalse_50 (val : Nat → Int) (h : Holds val [.ne (.wrap .i64 (.shr (.wrap .u64 (.shl (.wrap .u64 (.a 0)) 32)) 32)) 0, .le (.a 0) (-2147483649), .at (.eq (.a 0) (.wrap .i64 (.shr (.wrap .u64 (.shl (.wrap .u64 (.a 0)) 32)) 32))) true, .is (.a 1) 32, .ne (.a 1) 16, .ne (.a 1) 8, .ge (.a 0) (-9223372036854775808), .le (.a 0) 9223372036854775807]) : ImmQ false val := by
  exfalso
  have hb : Holds val (List.drop 6 _) := fun f hf => h f (List.mem_of_mem_drop hf)
  have ha : Holds val (List.take 1 _) := fun f hf => h f (List.mem_of_mem_take hf)
  have hc : Holds val (List.take 2 _) := fun f hf => h f (List.mem_of_mem_take hf)
  simp only [List.take_succ_cons, List.take_zero, List.drop_succ_cons, List.drop_zero, Holds, List.forall_mem_cons, List.not_mem_nil, false_implies, implies_true, and_true, Fact.holds, SB.eval, SX.eval, wrapU, wrapI, fdivP, tmodP, beq_iff_eq, beq_eq_false_iff_ne, decide_eq_true_eq, decide_eq_false_iff_not, ne_eq] at h ha hb hc
  simp only [Int.reducePow] at h ha hb hc
  first | (clear h hc; omega) | (clear h; omega) | omega

theorem immFalse_51 (val : Nat → Int) (h : Holds val [.at (.eq (.a 0) (.shr (.wrap .i64 (.wrap .u64 (.shl (.wrap .u64 (.a 0)) 32))) 32)) true, .is (.wrap .i64 (.shr (.wrap .u64 (.shl (.wrap .u64 (.a 0)) 32)) 32)) 0, .ge (.a 0) 4294967296, .ge (.a 0) (-2147483648), .at (.eq (.a 0) (.wrap .i64 (.shr (.wrap .u64 (.shl (.wrap .u64 (.a 0)) 32)) 32))) true, .is (.a 1) 32, .ne (.a 1) 16, .ne (.a 1) 8, .ge (.a 0) (-9223372036854775808), .le (.a 0) 9223372036854775807]) : ImmQ false val := by
  exfalso
  have hb : Holds val (List.drop 8 _) := fun f hf => h f (List.mem_of_mem_drop hf)
  have ha : Holds val (List.take 1 _) := fun f hf => h f (List.mem_of_mem_take hf)
  have hc : Holds val (List.take 2 _) := fun f hf => h f (List.mem_of_mem_take hf)
  simp only [List.take_succ_cons, List.take_zero, List.drop_succ_cons, List.drop_zero, Holds, List.forall_mem_cons, List.not_mem_nil, false_implies, implies_true, and_true, Fact.holds, SB.eval, SX.eval, wrapU, wrapI, fdivP, tmodP, beq_iff_eq, beq_eq_false_iff_ne, decide_eq_true_eq, decide_eq_false_iff_not, ne_eq] at h ha hb hc
  simp only [Int.reducePow] at h ha hb hc
  first | (clear h hc; omega) | (clear h; omega) | omega

theorem immFalse_52 (val : Nat → Int) (h : Holds val [.at (.eq (.a 0) (.shr (.wrap .i64 (.wrap .u64 (.shl (.wrap .u64 (.a 0)) 32))) 32)) false, .is (.wrap .i64 (.shr (.wrap .u64 (.shl (.wrap .u64 (.a 0)) 32)) 32)) 0, .ge (.a 0) 4294967296, .ge (.a 0) (-2147483648), .at (.eq (.a 0) (.wrap .i64 (.shr (.wrap .u64 (.shl (.wrap .u64 (.a 0)) 32)) 32))) true, .is (.a 1) 32, .ne (.a 1) 16, .ne (.a 1) 8, .ge (.a 0) (-9223372036854775808), .le (.a 0) 9223372036854775807]) : ImmQ false val :=
  leafI h (by kernel_rfl)

theorem immFalse_53 (val : Nat → Int) (h : Holds val [.ne (.wrap .i64 (.shr (.wrap .u64 (.shl (.wrap .u64 (.a 0)) 32)) 32)) 0, .ge (.a 0) 4294967296, .ge (.a 0) (-2147483648), .at (.eq (.a 0) (.wrap .i64 (.shr (.wrap .u64 (.shl (.wrap .u64 (.a 0)) 32)) 32))) true, .is (.a 1) 32, .ne (.a 1) 16, .ne (.a 1) 8, .ge (.a 0) (-9223372036854775808), .le (.a 0) 9223372036854775807]) : ImmQ false val := by
  exfalso
  have hb : Holds val (List.drop 7 _) := fun f hf => h f (List.mem_of_mem_drop hf)
  have ha : Holds val (List.take 1 _) := fun f hf => h f (List.mem_of_mem_take hf)
  have hc : Holds val (List.take 2 _) := fun f hf => h f (List.mem_of_mem_take hf)
  simp only [List.take_succ_cons, List.take_zero, List.drop_succ_cons, List.drop_zero, Holds, List.forall_mem_cons, List.not_mem_nil, false_implies, implies_true, and_true, Fact.holds, SB.eval, SX.eval, wrapU, wrapI, fdivP, tmodP, beq_iff_eq, beq_eq_false_iff_ne, decide_eq_true_eq, decide_eq_false_iff_not, ne_eq] at h ha hb hc
  simp only [Int.reducePow] at h ha hb hc
  first | (clear h hc; omega) | (clear h; omega) | omega

theorem immFalse_54 (val : Nat → Int) (h : Holds val [.at (.eq (.wrap .i64 (.shr (.wrap .u64 (.shl (.wrap .u64 (.a 0)) 32)) 32)) (.wrap .i64 (.add (.a 0) (.c 4294967296)))) true, .le (.a 0) (-1), .le (.a 0) 4294967295, .ge (.a 0) (-2147483648), .at (.eq (.a 0) (.wrap .i64 (.shr (.wrap .u64 (.shl (.wrap .u64 (.a 0)) 32)) 32))) true, .is (.a 1) 32, .ne (.a 1) 16, .ne (.a 1) 8, .ge (.a 0) (-9223372036854775808), .le (.a 0) 9223372036854775807]) : ImmQ false val :=
  leafI h (by kernel_rfl)

theorem immFalse_55 (val : Nat → Int) (h : Holds val [.at (.eq (.wrap .i64 (.shr (.wrap .u64 (.shl (.wrap .u64 (.a 0)) 32)) 32)) (.wrap .i64 (.add (.a 0) (.c 4294967296)))) false, .le (.a 0) (-1), .le (.a 0) 4294967295, .ge (.a 0) (-2147483648), .at (.eq (.a 0) (.wrap .i64 (.shr (.wrap .u64 (.shl (.wrap .u64 (.a 0)) 32)) 32))) true, .is (.a 1) 32, .ne (.a 1) 16, .ne (.a 1) 8, .ge (.a 0) (-9223372036854775808), .le (.a 0) 9223372036854775807]) : ImmQ false val := by
  exfalso
  have hb : Holds val (List.drop 8 _) := fun f hf => h f (List.mem_of_mem_drop hf)
  have ha : Holds val (List.take 1 _) := fun f hf => h f (List.mem_of_mem_take hf)
  have hc : Holds val (List.take 2 _) := fun f hf => h f (List.mem_of_mem_take hf)
  simp only [List.take_succ_cons, List.take_zero, List.drop_succ_cons, List.drop_zero, Holds, List.forall_mem_cons, List.not_mem_nil, false_implies, implies_true, and_true, Fact.holds, SB.eval, SX.eval, wrapU, wrapI, fdivP, tmodP, beq_iff_eq, beq_eq_false_iff_ne, decide_eq_true_eq, decide_eq_false_iff_not, ne_eq] at h ha hb hc
  simp only [Int.reducePow] at h ha hb hc
  first | (clear h hc; omega) | (clear h; omega) | omega

theorem immFalse_56 (val : Nat → Int) (h : Holds val [.at (.eq (.wrap .i64 (.shr (.wrap .u64 (.shl (.wrap .u64 (.a 0)) 32)) 32)) (.a 0)) true, .ge (.a 0) 0, .le (.a 0) 4294967295, .ge (.a 0) (-2147483648), .at (.eq (.a 0) (.wrap .i64 (.shr (.wrap .u64 (.shl (.wrap .u64 (.a 0)) 32)) 32))) true, .is (.a 1) 32, .ne (.a 1) 16, .ne (.a 1) 8, .ge (.a 0) (-9223372036854775808), .le (.a 0) 9223372036854775807]) : ImmQ false val :=
  leafI h (by kernel_rfl)

theorem immFalse_57 (val : Nat → Int) (h : Holds val [.at (.eq (.wrap .i64 (.shr (.wrap .u64 (.shl (.wrap .u64 (.a 0)) 32)) 32)) (.a 0)) false, .ge (.a 0) 0, .le (.a 0) 4294967295, .ge (.a 0) (-2147483648), .at (.eq (.a 0) (.wrap .i64 (.shr (.wrap .u64 (.shl (.wrap .u64 (.a 0)) 32)) 32))) true, .is (.a 1) 32, .ne (.a 1) 16, .ne (.a 1) 8, .ge (.a 0) (-9223372036854775808), .le (.a 0) 9223372036854775807]) : ImmQ false val := by
  exfalso
  have hb : Holds val (List.drop 8 _) := fun f hf => h f (List.mem_of_mem_drop hf)
  have ha : Holds val (List.take 1 _) := fun f hf => h f (List.mem_of_mem_take hf)
  have hc : Holds val (List.take 2 _) := fun f hf => h f (List.mem_of_mem_take hf)
  simp only [List.take_succ_cons, List.take_zero, List.drop_succ_cons, List.drop_zero, Holds, List.forall_mem_cons, List.not_mem_nil, false_implies, implies_true, and_true, Fact.holds, SB.eval, SX.eval, wrapU, wrapI, fdivP, tmodP, beq_iff_eq, beq_eq_false_iff_ne, decide_eq_true_eq, decide_eq_false_iff_not, ne_eq] at h ha hb hc
  simp only [Int.reducePow] at h ha hb hc
  first | (clear h hc; omega) | (clear h; omega) | omega

theorem immFalse_58 (val : Nat → Int) (h : Holds val [.is (.wrap .i64 (.shr (.wrap .u64 (.shl (.wrap .u64 (.a 0)) 32)) 32)) 0, .le (.a 0) (-2147483649), .at (.eq (.a 0) (.shr (.wrap .i64 (.wrap .u64 (.shl (.wrap .u64 (.a 0)) 32))) 32)) true, .at (.eq (.a 0) (.wrap .i64 (.shr (.wrap .u64 (.shl (.wrap .u64 (.a 0)) 32)) 32))) false, .is (.a 1) 32, .ne (.a 1) 16, .ne (.a 1) 8, .ge (.a 0) (-9223372036854775808), .le (.a 0) 9223372036854775807]) : ImmQ false val := by
  exfalso
  have hb : Holds val (List.drop 7 _) := fun f hf => h f (List.mem_of_mem_drop hf)
  have ha : Holds val (List.take 1 _) := fun f hf => h f (List.mem_of_mem_take hf)
  have hc : Holds val (List.take 2 _) := fun f hf => h f (List.mem_of_mem_take hf)
  simp only [List.take_succ_cons, List.take_zero, List.drop_succ_cons, List.drop_zero, Holds, List.forall_mem_cons, List.not_mem_nil, false_implies, implies_true, and_true, Fact.holds, SB.eval, SX.eval, wrapU, wrapI, fdivP, tmodP, beq_iff_eq, beq_eq_false_iff_ne, decide_eq_true_eq, decide_eq_false_iff_not, ne_eq] at h ha hb hc
  simp only [Int.reducePow] at h ha hb hc
  first | (clear h hc; omega) | (clear h; omega) | omega

theorem immFalse_59 (val : Nat → Int) (h : Holds val [.ne (.wrap .i64 (.shr (.wrap .u64 (.shl (.wrap .u64 (.a 0)) 32)) 32)) 0, .le (.a 0) (-2147483649), .at (.eq (.a 0) (.shr (.wrap .i64 (.wrap .u64 (.shl (.wrap .u64 (.a 0)) 32))) 32)) true, .at (.eq (.a 0) (.wrap .i64 (.shr (.wrap .u64 (.shl (.wrap .u64 (.a 0)) 32)) 32))) false, .is (.a 1) 32, .ne (.a 1) 16, .ne (.a 1) 8, .ge (.a 0) (-9223372036854775808), .le (.a 0) 9223372036854775807]) : ImmQ false val := by
  exfalso
  have hb : Holds val (List.drop 7 _) := fun f hf => h f (List.mem_of_mem_drop hf)
  have ha : Holds val (List.take 1 _) := fun f hf => h f (List.mem_of_mem_take hf)
  have hc : Holds val (List.take 2 _) := fun f hf => h f (List.mem_of_mem_take hf)
  simp only [List.take_succ_cons, List.take_zero, List.drop_succ_cons, List.drop_zero, Holds, List.forall_mem_cons, List.not_mem_nil, false_implies, implies_true, and_true, Fact.holds, SB.eval, SX.eval, wrapU, wrapI, fdivP, tmodP, beq_iff_eq, beq_eq_false_iff_ne, decide_eq_true_eq, decide_eq_false_iff_not, ne_eq] at h ha hb hc
  simp only [Int.reducePow] at h ha hb hc
  first | (clear h hc; omega) | (clear h; omega) | omega

theorem immFalse_60 (val : Nat → Int) (h : Holds val [.is (.wrap .i64 (.shr (.wrap .u64 (.shl (.wrap .u64 (.a 0)) 32)) 32)) 0, .ge (.a 0) 4294967296, .ge (.a 0) (-2147483648), .at (.eq (.a 0) (.shr (.wrap .i64 (.wrap .u64 (.shl (.wrap .u64 (.a 0)) 32))) 32)) true, .at (.eq (.a 0) (.wrap .i64 (.shr (.wrap .u64 (.shl (.wrap .u64 (.a 0)) 32)) 32))) false, .is (.a 1) 32, .ne (.a 1) 16, .ne (.a 1) 8, .ge (.a 0) (-9223372036854775808), .le (.a 0) 9223372036854775807]) : ImmQ false val := by
  exfalso
  have hb : Holds val (List.drop 8 _) := fun f hf => h f (List.mem_of_mem_drop hf)
  have ha : Holds val (List.take 1 _) := fun f hf => h f (List.mem_of_mem_take hf)
  have hc : Holds val (List.take 2 _) := fun f hf => h f (List.mem_of_mem_take hf)
  simp only [List.take_succ_cons, List.take_zero, List.drop_succ_cons, List.drop_zero, Holds, List.forall_mem_cons, List.not_mem_nil, false_implies, implies_true, and_true, Fact.holds, SB.eval, SX.eval, wrapU, wrapI, fdivP, tmodP, beq_iff_eq, beq_eq_false_iff_ne, decide_eq_true_eq, decide_eq_false_iff_not, ne_eq] at h ha hb hc
  simp only [Int.reducePow] at h ha hb hc
  first | (clear h hc; omega) | (clear h; omega) | omega

theorem immFalse_61 (val : Nat → Int) (h : Holds val [.ne (.wrap .i64 (.shr (.wrap .u64 (.shl (.wrap .u64 (.a 0)) 32)) 32)) 0, .ge (.a 0) 4294967296, .ge (.a 0) (-2147483648), .at (.eq (.a 0) (.shr (.wrap .i64 (.wrap .u64 (.shl (.wrap .u64 (.a 0)) 32))) 32)) true, .at (.eq (.a 0) (.wrap .i64 (.shr (.wrap .u64 (.shl (.wrap .u64 (.a 0)) 32)) 32))) false, .is (.a 1) 32, .ne (.a 1) 16, .ne (.a 1) 8, .ge (.a 0) (-9223372036854775808), .le (.a 0) 9223372036854775807]) : ImmQ false val := by
  exfalso
  have hb : Holds val (List.drop 8 _) := fun f hf => h f (List.mem_of_mem_drop hf)
  have ha : Holds val (List.take 1 _) := fun f hf => h f (List.mem_of_mem_take hf)
  have hc : Holds val (List.take 2 _) := fun f hf => h f (List.mem_of_mem_take hf)
  simp only [List.take_succ_cons, List.take_zero, List.drop_succ_cons, List.drop_zero, Holds, List.forall_mem_cons, List.not_mem_nil, false_implies, implies_true, and_true, Fact.holds, SB.eval, SX.eval, wrapU, wrapI, fdivP, tmodP, beq_iff_eq, beq_eq_false_iff_ne, decide_eq_true_eq, decide_eq_false_iff_not, ne_eq] at h ha hb hc
  simp only [Int.reducePow] at h ha hb hc
  first | (clear h hc; omega) | (clear h; omega) | omega

theorem immFalse_62 (val : Nat → Int) (h : Holds val [.at (.eq (.wrap .i64 (.shr (.wrap .u64 (.shl (.wrap .u64 (.a 0)) 32)) 32)) (.wrap .i64 (.add (.a 0) (.c 4294967296)))) true, .le (.a 0) (-1), .le (.a 0) 4294967295, .ge (.a 0) (-2147483648), .at (.eq (.a 0) (.shr (.wrap .i64 (.wrap .u64 (.shl (.wrap .u64 (.a 0)) 32))) 32)) true, .at (.eq (.a 0) (.wrap .i64 (.shr (.wrap .u64 (.shl (.wrap .u64 (.a 0)) 32)) 32))) false, .is (.a 1) 32, .ne (.a 1) 16, .ne (.a 1) 8, .ge (.a 0) (-9223372036854775808), .le (.a 0) 9223372036854775807]) : ImmQ false val :=
  leafI h (by kernel_rfl)

theorem immFalse_63 (val : Nat → Int) (h : Holds val [.at (.eq (.wrap .i64 (.shr (.wrap .u64 (.shl (.wrap .u64 (.a 0)) 32)) 32)) (.wrap .i64 (.add (.a 0) (.c 4294967296)))) false, .le (.a 0) (-1), .le (.a 0) 4294967295, .ge (.a 0) (-2147483648), .at (.eq (.a 0) (.shr (.wrap .i64 (.wrap .u64 (.shl (.wrap .u64 (.a 0)) 32))) 32)) true, .at (.eq (.a 0) (.wrap .i64 (.shr (.wrap .u64 (.shl (.wrap .u64 (.a 0)) 32)) 32))) false, .is (.a 1) 32, .ne (.a 1) 16, .ne (.a 1) 8, .ge (.a 0) (-9223372036854775808), .le (.a 0) 9223372036854775807]) : ImmQ false val := by
  exfalso
  have hb : Holds val (List.drop 9 _) := fun f hf => h f (List.mem_of_mem_drop hf)
  have ha : Holds val (List.take 1 _) := fun f hf => h f (List.mem_of_mem_take hf)
  have hc : Holds val (List.take 2 _) := fun f hf => h f (List.mem_of_mem_take hf)
  simp only [List.take_succ_cons, List.take_zero, List.drop_succ_cons, List.drop_zero, Holds, List.forall_mem_cons, List.not_mem_nil, false_implies, implies_true, and_true, Fact.holds, SB.eval, SX.eval, wrapU, wrapI, fdivP, tmodP, beq_iff_eq, beq_eq_false_iff_ne, decide_eq_true_eq, decide_eq_false_iff_not, ne_eq] at h ha hb hc
  simp only [Int.reducePow] at h ha hb hc
  first | (clear h hc; omega) | (clear h; omega) | omega

theorem immFalse_64 (val : Nat → Int) (h : Holds val [.at (.eq (.wrap .i64 (.shr (.wrap .u64 (.shl (.wrap .u64 (.a 0)) 32)) 32)) (.a 0)) true, .ge (.a 0) 0, .le (.a 0) 4294967295, .ge (.a 0) (-2147483648), .at (.eq (.a 0) (.shr (.wrap .i64 (.wrap .u64 (.shl (.wrap .u64 (.a 0)) 32))) 32)) true, .at (.eq (.a 0) (.wrap .i64 (.shr (.wrap .u64 (.shl (.wrap .u64 (.a 0)) 32)) 32))) false, .is (.a 1) 32, .ne (.a 1) 16, .ne (.a 1) 8, .ge (.a 0) (-9223372036854775808), .le (.a 0) 9223372036854775807]) : ImmQ false val :=
  leafI h (by kernel_rfl)

theorem immFalse_65 (val : Nat → Int) (h : Holds val [.at (.eq (.wrap .i64 (.shr (.wrap .u64 (.shl (.wrap .u64 (.a 0)) 32)) 32)) (.a 0)) false, .ge (.a 0) 0, .le (.a 0) 4294967295, .ge (.a 0) (-2147483648), .at (.eq (.a 0) (.shr (.wrap .i64 (.wrap .u64 (.shl (.wrap .u64 (.a 0)) 32))) 32)) true, .at (.eq (.a 0) (.wrap .i64 (.shr (.wrap .u64 (.shl (.wrap .u64 (.a 0)) 32)) 32))) false, .is (.a 1) 32, .ne (.a 1) 16, .ne (.a 1) 8, .ge (.a 0) (-9223372036854775808), .le (.a 0) 9223372036854775807]) : ImmQ false val := by
  exfalso
  have hb : Holds val (List.drop 9 _) := fun f hf => h f (List.mem_of_mem_drop hf)
  have ha : Holds val (List.take 1 _) := fun f hf => h f (List.mem_of_mem_take hf)
  have hc : Holds val (List.take 2 _) := fun f hf => h f (List.mem_of_mem_take hf)
  simp only [List.take_succ_cons, List.take_zero, List.drop_succ_cons, List.drop_zero, Holds, List.forall_mem_cons, List.not_mem_nil, false_implies, implies_true, and_true, Fact.holds, SB.eval, SX.eval, wrapU, wrapI, fdivP, tmodP, beq_iff_eq, beq_eq_false_iff_ne, decide_eq_true_eq, decide_eq_false_iff_not, ne_eq] at h ha hb hc
  simp only [Int.reducePow] at h ha hb hc
  first | (clear h hc; omega) | (clear h; omega) | omega

theorem immFalse_66 (val : Nat → Int) (h : Holds val [.le (.a 0) (-2147483649), .at (.eq (.a 0) (.shr (.wrap .i64 (.wrap .u64 (.shl (.wrap .u64 (.a 0)) 32))) 32)) false, .at (.eq (.a 0) (.wrap .i64 (.shr (.wrap .u64 (.shl (.wrap .u64 (.a 0)) 32)) 32))) false, .is (.a 1) 32, .ne (.a 1) 16, .ne (.a 1) 8, .ge (.a 0) (-9223372036854775808), .le (.a 0) 9223372036854775807]) : ImmQ false val :=
  leafI h (by kernel_rfl)

theorem immFalse_67 (val : Nat → Int) (h : Holds val [.ge (.a 0) 4294967296, .ge (.a 0) (-2147483648), .at (.eq (.a 0) (.shr (.wrap .i64 (.wrap .u64 (.shl (.wrap .u64 (.a 0)) 32))) 32)) false, .at (.eq (.a 0) (.wrap .i64 (.shr (.wrap .u64 (.shl (.wrap .u64 (.a 0)) 32)) 32))) false, .is (.a 1) 32, .ne (.a 1) 16, .ne (.a 1) 8, .ge (.a 0) (-9223372036854775808), .le (.a 0) 9223372036854775807]) : ImmQ false val :=
  leafI h (by kernel_rfl)

theorem immFalse_68 (val : Nat → Int) (h : Holds val [.is (.wrap .i64 (.add (.a 0) (.c 4294967296))) 0, .le (.a 0) (-1), .le (.a 0) 4294967295, .ge (.a 0) (-2147483648), .at (.eq (.a 0) (.shr (.wrap .i64 (.wrap .u64 (.shl (.wrap .u64 (.a 0)) 32))) 32)) false, .at (.eq (.a 0) (.wrap .i64 (.shr (.wrap .u64 (.shl (.wrap .u64 (.a 0)) 32)) 32))) false, .is (.a 1) 32, .ne (.a 1) 16, .ne (.a 1) 8, .ge (.a 0) (-9223372036854775808), .le (.a 0) 9223372036854775807]) : ImmQ false val := by
  exfalso
  have hb : Holds val (List.drop 9 _) := fun f hf => h f (List.mem_of_mem_drop hf)
  have ha : Holds val (List.take 1 _) := fun f hf => h f (List.mem_of_mem_take hf)
  have hc : Holds val (List.take 2 _) := fun f hf => h f (List.mem_of_mem_take hf)
  simp only [List.take_succ_cons, List.take_zero, List.drop_succ_cons, List.drop_zero, Holds, List.forall_mem_cons, List.not_mem_nil, false_implies, implies_true, and_true, Fact.holds, SB.eval, SX.eval, wrapU, wrapI, fdivP, tmodP, beq_iff_eq, beq_eq_false_iff_ne, decide_eq_true_eq, decide_eq_false_iff_not, ne_eq] at h ha hb hc
  simp only [Int.reducePow] at h ha hb hc
  first | (clear h hc; omega) | (clear h; omega) | omega

theorem immFalse_69 (val : Nat → Int) (h : Holds val [.ne (.wrap .i64 (.add (.a 0) (.c 4294967296))) 0, .le (.a 0) (-1), .le (.a 0) 4294967295, .ge (.a 0) (-2147483648), .at (.eq (.a 0) (.shr (.wrap .i64 (.wrap .u64 (.shl (.wrap .u64 (.a 0)) 32))) 32)) false, .at (.eq (.a 0) (.wrap .i64 (.shr (.wrap .u64 (.shl (.wrap .u64 (.a 0)) 32)) 32))) false, .is (.a 1) 32, .ne (.a 1) 16, .ne (.a 1) 8, .ge (.a 0) (-9223372036854775808), .le (.a 0) 9223372036854775807]) : ImmQ false val := by
  exfalso
  have hb : Holds val (List.drop 9 _) := fun f hf => h f (List.mem_of_mem_drop hf)
  have ha : Holds val (List.take 1 _) := fun f hf => h f (List.mem_of_mem_take hf)
  have hc : Holds val (List.take 2 _) := fun f hf => h f (List.mem_of_mem_take hf)
  simp only [List.take_succ_cons, List.take_zero, List.drop_succ_cons, List.drop_zero, Holds, List.forall_mem_cons, List.not_mem_nil, false_implies, implies_true, and_true, Fact.holds, SB.eval, SX.eval, wrapU, wrapI, fdivP, tmodP, beq_iff_eq, beq_eq_false_iff_ne, decide_eq_true_eq, decide_eq_false_iff_not, ne_eq] at h ha hb hc
  simp only [Int.reducePow] at h ha hb hc
  first | (clear h hc; omega) | (clear h; omega) | omega

theorem immFalse_70 (val : Nat → Int) (h : Holds val [.is (.a 0) 0, .ge (.a 0) 0, .le (.a 0) 4294967295, .ge (.a 0) (-2147483648), .at (.eq (.a 0) (.shr (.wrap .i64 (.wrap .u64 (.shl (.wrap .u64 (.a 0)) 32))) 32)) false, .at (.eq (.a 0) (.wrap .i64 (.shr (.wrap .u64 (.shl (.wrap .u64 (.a 0)) 32)) 32))) false, .is (.a 1) 32, .ne (.a 1) 16, .ne (.a 1) 8, .ge (.a 0) (-9223372036854775808), .le (.a 0) 9223372036854775807]) : ImmQ false val :=
  leafI h (by kernel_rfl)

theorem immFalse_71 (val : Nat → Int) (h : Holds val [.ne (.a 0) 0, .ge (.a 0) 0, .le (.a 0) 4294967295, .ge (.a 0) (-2147483648), .at (.eq (.a 0) (.shr (.wrap .i64 (.wrap .u64 (.shl (.wrap .u64 (.a 0)) 32))) 32)) false, .at (.eq (.a 0) (.wrap .i64 (.shr (.wrap .u64 (.shl (.wrap .u64 (.a 0)) 32)) 32))) false, .is (.a 1) 32, .ne (.a 1) 16, .ne (.a 1) 8, .ge (.a 0) (-9223372036854775808), .le (.a 0) 9223372036854775807]) : ImmQ false val := by
  exfalso
  have hb : Holds val (List.drop 9 _) := fun f hf => h f (List.mem_of_mem_drop hf)
  have ha : Holds val (List.take 1 _) := fun f hf => h f (List.mem_of_mem_take hf)
  have hc : Holds val (List.take 2 _) := fun f hf => h f (List.mem_of_mem_take hf)
  simp only [List.take_succ_cons, List.take_zero, List.drop_succ_cons, List.drop_zero, Holds, List.forall_mem_cons, List.not_mem_nil, false_implies, implies_true, and_true, Fact.holds, SB.eval, SX.eval, wrapU, wrapI, fdivP, tmodP, beq_iff_eq, beq_eq_false_iff_ne, decide_eq_true_eq, decide_eq_false_iff_not, ne_eq] at h ha hb hc
  simp only [Int.reducePow] at h ha hb hc
  first | (clear h hc; omega) | (clear h; omega) | omega

theorem immFalse_72 (val : Nat → Int) (h : Holds val [.at (.eq (.wrap .i64 (.shr (.wrap .u64 (.shl (.wrap .u64 (.a 0)) 0)) 0)) (.a 0)) true, .at (.eq (.a 0) (.wrap .i64 (.shr (.wrap .u64 (.shl (.wrap .u64 (.a 0)) 0)) 0))) true, .is (.a 1) 64, .ne (.a 1) 32, .ne (.a 1) 16, .ne (.a 1) 8, .ge (.a 0) (-9223372036854775808), .le (.a 0) 9223372036854775807]) : ImmQ false val :=
  leafI h (by kernel_rfl)

theorem immFalse_73 (val : Nat → Int) (h : Holds val [.at (.eq (.wrap .i64 (.shr (.wrap .u64 (.shl (.wrap .u64 (.a 0)) 0)) 0)) (.a 0)) false, .at (.eq (.a 0) (.wrap .i64 (.shr (.wrap .u64 (.shl (.wrap .u64 (.a 0)) 0)) 0))) true, .is (.a 1) 64, .ne (.a 1) 32, .ne (.a 1) 16, .ne (.a 1) 8, .ge (.a 0) (-9223372036854775808), .le (.a 0) 9223372036854775807]) : ImmQ false val := by
  exfalso
  have hb : Holds val (List.drop 6 _) := fun f hf => h f (List.mem_of_mem_drop hf)
  have ha : Holds val (List.take 1 _) := fun f hf => h f (List.mem_of_mem_take hf)
  have hc : Holds val (List.take 2 _) := fun f hf => h f (List.mem_of_mem_take hf)
  simp only [List.take_succ_cons, List.take_zero, List.drop_succ_cons, List.drop_zero, Holds, List.forall_mem_cons, List.not_mem_nil, false_implies, implies_true, and_true, Fact.holds, SB.eval, SX.eval, wrapU, wrapI, fdivP, tmodP, beq_iff_eq, beq_eq_false_iff_ne, decide_eq_true_eq, decide_eq_false_iff_not, ne_eq] at h ha hb hc
  simp only [Int.reducePow] at h ha hb hc
  first | (clear h hc; omega) | (clear h; omega) | omega

theorem immFalse_74 (val : Nat → Int) (h : Holds val [.at (.eq (.wrap .i64 (.shr (.wrap .u64 (.shl (.wrap .u64 (.a 0)) 0)) 0)) (.a 0)) true, .at (.eq (.a 0) (.shr (.wrap .i64 (.wrap .u64 (.shl (.wrap .u64 (.a 0)) 0))) 0)) true, .at (.eq (.a 0) (.wrap .i64 (.shr (.wrap .u64 (.shl (.wrap .u64 (.a 0)) 0)) 0))) false, .is (.a 1) 64, .ne (.a 1) 32, .ne (.a 1) 16, .ne (.a 1) 8, .ge (.a 0) (-9223372036854775808), .le (.a 0) 9223372036854775807]) : ImmQ false val :=
  leafI h (by kernel_rfl)

theorem immFalse_75 (val : Nat → Int) (h : Holds val [.at (.eq (.wrap .i64 (.shr (.wrap .u64 (.shl (.wrap .u64 (.a 0)) 0)) 0)) (.a 0)) false, .at (.eq (.a 0) (.shr (.wrap .i64 (.wrap .u64 (.shl (.wrap .u64 (.a 0)) 0))) 0)) true, .at (.eq (.a 0) (.wrap .i64 (.shr (.wrap .u64 (.shl (.wrap .u64 (.a 0)) 0)) 0))) false, .is (.a 1) 64, .ne (.a 1) 32, .ne (.a 1) 16, .ne (.a 1) 8, .ge (.a 0) (-9223372036854775808), .le (.a 0) 9223372036854775807]) : ImmQ false val := by
  exfalso
  have hb : Holds val (List.drop 7 _) := fun f hf => h f (List.mem_of_mem_drop hf)
  have ha : Holds val (List.take 1 _) := fun f hf => h f (List.mem_of_mem_take hf)
  have hc : Holds val (List.take 2 _) := fun f hf => h f (List.mem_of_mem_take hf)
  simp only [List.take_succ_cons, List.take_zero, List.drop_succ_cons, List.drop_zero, Holds, List.forall_mem_cons, List.not_mem_nil, false_implies, implies_true, and_true, Fact.holds, SB.eval, SX.eval, wrapU, wrapI, fdivP, tmodP, beq_iff_eq, beq_eq_false_iff_ne, decide_eq_true_eq, decide_eq_false_iff_not, ne_eq] at h ha hb hc
  simp only [Int.reducePow] at h ha hb hc
  first | (clear h hc; omega) | (clear h; omega) | omega

theorem immFalse_76 (val : Nat → Int) (h : Holds val [.is (.a 0) 0, .at (.eq (.a 0) (.shr (.wrap .i64 (.wrap .u64 (.shl (.wrap .u64 (.a 0)) 0))) 0)) false, .at (.eq (.a 0) (.wrap .i64 (.shr (.wrap .u64 (.shl (.wrap .u64 (.a 0)) 0)) 0))) false, .is (.a 1) 64, .ne (.a 1) 32, .ne (.a 1) 16, .ne (.a 1) 8, .ge (.a 0) (-9223372036854775808), .le (.a 0) 9223372036854775807]) : ImmQ false val :=
  leafI h (by kernel_rfl)

theorem immFalse_77 (val : Nat → Int) (h : Holds val [.ne (.a 0) 0, .at (.eq (.a 0) (.shr (.wrap .i64 (.wrap .u64 (.shl (.wrap .u64 (.a 0)) 0))) 0)) false, .at (.eq (.a 0) (.wrap .i64 (.shr (.wrap .u64 (.shl (.wrap .u64 (.a 0)) 0)) 0))) false, .is (.a 1) 64, .ne (.a 1) 32, .ne (.a 1) 16, .ne (.a 1) 8, .ge (.a 0) (-9223372036854775808), .le (.a 0) 9223372036854775807]) : ImmQ false val := by
  exfalso
  have hb : Holds val (List.drop 7 _) := fun f hf => h f (List.mem_of_mem_drop hf)
  have ha : Holds val (List.take 1 _) := fun f hf => h f (List.mem_of_mem_take hf)
  have hc : Holds val (List.take 2 _) := fun f hf => h f (List.mem_of_mem_take hf)
  simp only [List.take_succ_cons, List.take_zero, List.drop_succ_cons, List.drop_zero, Holds, List.forall_mem_cons, List.not_mem_nil, false_implies, implies_true, and_true, Fact.holds, SB.eval, SX.eval, wrapU, wrapI, fdivP, tmodP, beq_iff_eq, beq_eq_false_iff_ne, decide_eq_true_eq, decide_eq_false_iff_not, ne_eq] at h ha hb hc
  simp only [Int.reducePow] at h ha hb hc
  first | (clear h hc; omega) | (clear h; omega) | omega

theorem immFalse_78 (val : Nat → Int) (h : Holds val [.ne (.a 1) 64, .ne (.a 1) 32, .ne (.a 1) 16, .ne (.a 1) 8, .ge (.a 0) (-9223372036854775808), .le (.a 0) 9223372036854775807]) : ImmQ false val :=
  leafI h (by kernel_rfl)

theorem immFalseSub1 (val : Nat → Int) (h : Holds val [.at (.eq (.a 0) (.wrap .i64 (.shr (.wrap .u64 (.shl (.wrap .u64 (.a 0)) 56)) 56))) false, .is (.a 1) 8, .ge (.a 0) (-9223372036854775808), .le (.a 0) 9223372036854775807]) : ImmQ false val :=
  by_way (.eq (.a 0) (.shr (.wrap .i64 (.wrap .u64 (.shl (.wrap .u64 (.a 0)) 56))) 56)) (.at (.eq (.a 0) (.shr (.wrap .i64 (.wrap .u64 (.shl (.wrap .u64 (.a 0)) 56))) 56)) true) (.at (.eq (.a 0) (.shr (.wrap .i64 (.wrap .u64 (.shl (.wrap .u64 (.a 0)) 56))) 56)) false) (by kernel_rfl) (by kernel_rfl) h
  (fun h => by_way (.lt (.a 0) (.c (-128))) (.le (.a 0) (-129)) (.ge (.a 0) (-128)) (by kernel_rfl) (by kernel_rfl) h
  (fun h => by_way (.eq (.wrap .i64 (.shr (.wrap .u64 (.shl (.wrap .u64 (.a 0)) 56)) 56)) (.c 0)) (.is (.wrap .i64 (.shr (.wrap .u64 (.shl (.wrap .u64 (.a 0)) 56)) 56)) 0) (.ne (.wrap .i64 (.shr (.wrap .u64 (.shl (.wrap .u64 (.a 0)) 56)) 56)) 0) (by kernel_rfl) (by kernel_rfl) h
  (fun h => immFalse_10 val h)
  (fun h => immFalse_11 val h))
  (fun h => by_way (.le (.c 256) (.a 0)) (.ge (.a 0) 256) (.le (.a 0) 255) (by kernel_rfl) (by kernel_rfl) h
  (fun h => by_way (.eq (.wrap .i64 (.shr (.wrap .u64 (.shl (.wrap .u64 (.a 0)) 56)) 56)) (.c 0)) (.is (.wrap .i64 (.shr (.wrap .u64 (.shl (.wrap .u64 (.a 0)) 56)) 56)) 0) (.ne (.wrap .i64 (.shr (.wrap .u64 (.shl (.wrap .u64 (.a 0)) 56)) 56)) 0) (by kernel_rfl) (by kernel_rfl) h
  (fun h => immFalse_12 val h)
  (fun h => immFalse_13 val h))
  (fun h => by_way (.lt (.a 0) (.c 0)) (.le (.a 0) (-1)) (.ge (.a 0) 0) (by kernel_rfl) (by kernel_rfl) h
  (fun h => by_way (.eq (.wrap .i64 (.shr (.wrap .u64 (.shl (.wrap .u64 (.a 0)) 56)) 56)) (.wrap .i64 (.add (.a 0) (.c 256)))) (.at (.eq (.wrap .i64 (.shr (.wrap .u64 (.shl (.wrap .u64 (.a 0)) 56)) 56)) (.wrap .i64 (.add (.a 0) (.c 256)))) true) (.at (.eq (.wrap .i64 (.shr (.wrap .u64 (.shl (.wrap .u64 (.a 0)) 56)) 56)) (.wrap .i64 (.add (.a 0) (.c 256)))) false) (by kernel_rfl) (by kernel_rfl) h
  (fun h => immFalse_14 val h)
  (fun h => immFalse_15 val h))
  (fun h => by_way (.eq (.wrap .i64 (.shr (.wrap .u64 (.shl (.wrap .u64 (.a 0)) 56)) 56)) (.a 0)) (.at (.eq (.wrap .i64 (.shr (.wrap .u64 (.shl (.wrap .u64 (.a 0)) 56)) 56)) (.a 0)) true) (.at (.eq (.wrap .i64 (.shr (.wrap .u64 (.shl (.wrap .u64 (.a 0)) 56)) 56)) (.a 0)) false) (by kernel_rfl) (by kernel_rfl) h
  (fun h => immFalse_16 val h)
  (fun h => immFalse_17 val h)))))
  (fun h => by_way (.lt (.a 0) (.c (-128))) (.le (.a 0) (-129)) (.ge (.a 0) (-128)) (by kernel_rfl) (by kernel_rfl) h
  (fun h => immFalse_18 val h)
  (fun h => by_way (.le (.c 256) (.a 0)) (.ge (.a 0) 256) (.le (.a 0) 255) (by kernel_rfl) (by kernel_rfl) h
  (fun h => immFalse_19 val h)
  (fun h => by_way (.lt (.a 0) (.c 0)) (.le (.a 0) (-1)) (.ge (.a 0) 0) (by kernel_rfl) (by kernel_rfl) h
  (fun h => by_way (.eq (.c 0) (.wrap .i64 (.add (.a 0) (.c 256)))) (.is (.wrap .i64 (.add (.a 0) (.c 256))) 0) (.ne (.wrap .i64 (.add (.a 0) (.c 256))) 0) (by kernel_rfl) (by kernel_rfl) h
  (fun h => immFalse_20 val h)
  (fun h => immFalse_21 val h))
  (fun h => by_way (.eq (.c 0) (.a 0)) (.is (.a 0) 0) (.ne (.a 0) 0) (by kernel_rfl) (by kernel_rfl) h
  (fun h => immFalse_22 val h)
  (fun h => immFalse_23 val h)))))

theorem immFalseSub0 (val : Nat → Int) (h : Holds val [.is (.a 1) 8, .ge (.a 0) (-9223372036854775808), .le (.a 0) 9223372036854775807]) : ImmQ false val :=
  by_way (.eq (.a 0) (.wrap .i64 (.shr (.wrap .u64 (.shl (.wrap .u64 (.a 0)) 56)) 56))) (.at (.eq (.a 0) (.wrap .i64 (.shr (.wrap .u64 (.shl (.wrap .u64 (.a 0)) 56)) 56))) true) (.at (.eq (.a 0) (.wrap .i64 (.shr (.wrap .u64 (.shl (.wrap .u64 (.a 0)) 56)) 56))) false) (by kernel_rfl) (by kernel_rfl) h
  (fun h => by_way (.lt (.a 0) (.c (-128))) (.le (.a 0) (-129)) (.ge (.a 0) (-128)) (by kernel_rfl) (by kernel_rfl) h
  (fun h => by_way (.eq (.wrap .i64 (.shr (.wrap .u64 (.shl (.wrap .u64 (.a 0)) 56)) 56)) (.c 0)) (.is (.wrap .i64 (.shr (.wrap .u64 (.shl (.wrap .u64 (.a 0)) 56)) 56)) 0) (.ne (.wrap .i64 (.shr (.wrap .u64 (.shl (.wrap .u64 (.a 0)) 56)) 56)) 0) (by kernel_rfl) (by kernel_rfl) h
  (fun h => by_way (.eq (.a 0) (.shr (.wrap .i64 (.wrap .u64 (.shl (.wrap .u64 (.a 0)) 56))) 56)) (.at (.eq (.a 0) (.shr (.wrap .i64 (.wrap .u64 (.shl (.wrap .u64 (.a 0)) 56))) 56)) true) (.at (.eq (.a 0) (.shr (.wrap .i64 (.wrap .u64 (.shl (.wrap .u64 (.a 0)) 56))) 56)) false) (by kernel_rfl) (by kernel_rfl) h
  (fun h => immFalse_0 val h)
  (fun h => immFalse_1 val h))
  (fun h => immFalse_2 val h))
  (fun h => by_way (.le (.c 256) (.a 0)) (.ge (.a 0) 256) (.le (.a 0) 255) (by kernel_rfl) (by kernel_rfl) h
  (fun h => by_way (.eq (.wrap .i64 (.shr (.wrap .u64 (.shl (.wrap .u64 (.a 0)) 56)) 56)) (.c 0)) (.is (.wrap .i64 (.shr (.wrap .u64 (.shl (.wrap .u64 (.a 0)) 56)) 56)) 0) (.ne (.wrap .i64 (.shr (.wrap .u64 (.shl (.wrap .u64 (.a 0)) 56)) 56)) 0) (by kernel_rfl) (by kernel_rfl) h
  (fun h => by_way (.eq (.a 0) (.shr (.wrap .i64 (.wrap .u64 (.shl (.wrap .u64 (.a 0)) 56))) 56)) (.at (.eq (.a 0) (.shr (.wrap .i64 (.wrap .u64 (.shl (.wrap .u64 (.a 0)) 56))) 56)) true) (.at (.eq (.a 0) (.shr (.wrap .i64 (.wrap .u64 (.shl (.wrap .u64 (.a 0)) 56))) 56)) false) (by kernel_rfl) (by kernel_rfl) h
  (fun h => immFalse_3 val h)
  (fun h => immFalse_4 val h))
  (fun h => immFalse_5 val h))
  (fun h => by_way (.lt (.a 0) (.c 0)) (.le (.a 0) (-1)) (.ge (.a 0) 0) (by kernel_rfl) (by kernel_rfl) h
  (fun h => by_way (.eq (.wrap .i64 (.shr (.wrap .u64 (.shl (.wrap .u64 (.a 0)) 56)) 56)) (.wrap .i64 (.add (.a 0) (.c 256)))) (.at (.eq (.wrap .i64 (.shr (.wrap .u64 (.shl (.wrap .u64 (.a 0)) 56)) 56)) (.wrap .i64 (.add (.a 0) (.c 256)))) true) (.at (.eq (.wrap .i64 (.shr (.wrap .u64 (.shl (.wrap .u64 (.a 0)) 56)) 56)) (.wrap .i64 (.add (.a 0) (.c 256)))) false) (by kernel_rfl) (by kernel_rfl) h
  (fun h => immFalse_6 val h)
  (fun h => immFalse_7 val h))
  (fun h => by_way (.eq (.wrap .i64 (.shr (.wrap .u64 (.shl (.wrap .u64 (.a 0)) 56)) 56)) (.a 0)) (.at (.eq (.wrap .i64 (.shr (.wrap .u64 (.shl (.wrap .u64 (.a 0)) 56)) 56)) (.a 0)) true) (.at (.eq (.wrap .i64 (.shr (.wrap .u64 (.shl (.wrap .u64 (.a 0)) 56)) 56)) (.a 0)) false) (by kernel_rfl) (by kernel_rfl) h
  (fun h => immFalse_8 val h)
  (fun h => immFalse_9 val h)))))
  (fun h => immFalseSub1 val h)

theorem immFalseSub4 (val : Nat → Int) (h : Holds val [.at (.eq (.a 0) (.wrap .i64 (.shr (.wrap .u64 (.shl (.wrap .u64 (.a 0)) 48)) 48))) false, .is (.a 1) 16, .ne (.a 1) 8, .ge (.a 0) (-9223372036854775808), .le (.a 0) 9223372036854775807]) : ImmQ false val :=
  by_way (.eq (.a 0) (.shr (.wrap .i64 (.wrap .u64 (.shl (.wrap .u64 (.a 0)) 48))) 48)) (.at (.eq (.a 0) (.shr (.wrap .i64 (.wrap .u64 (.shl (.wrap .u64 (.a 0)) 48))) 48)) true) (.at (.eq (.a 0) (.shr (.wrap .i64 (.wrap .u64 (.shl (.wrap .u64 (.a 0)) 48))) 48)) false) (by kernel_rfl) (by kernel_rfl) h
  (fun h => by_way (.lt (.a 0) (.c (-32768))) (.le (.a 0) (-32769)) (.ge (.a 0) (-32768)) (by kernel_rfl) (by kernel_rfl) h
  (fun h => by_way (.eq (.wrap .i64 (.shr (.wrap .u64 (.shl (.wrap .u64 (.a 0)) 48)) 48)) (.c 0)) (.is (.wrap .i64 (.shr (.wrap .u64 (.shl (.wrap .u64 (.a 0)) 48)) 48)) 0) (.ne (.wrap .i64 (.shr (.wrap .u64 (.shl (.wrap .u64 (.a 0)) 48)) 48)) 0) (by kernel_rfl) (by kernel_rfl) h
  (fun h => immFalse_34 val h)
  (fun h => immFalse_35 val h))
  (fun h => by_way (.le (.c 65536) (.a 0)) (.ge (.a 0) 65536) (.le (.a 0) 65535) (by kernel_rfl) (by kernel_rfl) h
  (fun h => by_way (.eq (.wrap .i64 (.shr (.wrap .u64 (.shl (.wrap .u64 (.a 0)) 48)) 48)) (.c 0)) (.is (.wrap .i64 (.shr (.wrap .u64 (.shl (.wrap .u64 (.a 0)) 48)) 48)) 0) (.ne (.wrap .i64 (.shr (.wrap .u64 (.shl (.wrap .u64 (.a 0)) 48)) 48)) 0) (by kernel_rfl) (by kernel_rfl) h
  (fun h => immFalse_36 val h)
  (fun h => immFalse_37 val h))
  (fun h => by_way (.lt (.a 0) (.c 0)) (.le (.a 0) (-1)) (.ge (.a 0) 0) (by kernel_rfl) (by kernel_rfl) h
  (fun h => by_way (.eq (.wrap .i64 (.shr (.wrap .u64 (.shl (.wrap .u64 (.a 0)) 48)) 48)) (.wrap .i64 (.add (.a 0) (.c 65536)))) (.at (.eq (.wrap .i64 (.shr (.wrap .u64 (.shl (.wrap .u64 (.a 0)) 48)) 48)) (.wrap .i64 (.add (.a 0) (.c 65536)))) true) (.at (.eq (.wrap .i64 (.shr (.wrap .u64 (.shl (.wrap .u64 (.a 0)) 48)) 48)) (.wrap .i64 (.add (.a 0) (.c 65536)))) false) (by kernel_rfl) (by kernel_rfl) h
  (fun h => immFalse_38 val h)
  (fun h => immFalse_39 val h))
  (fun h => by_way (.eq (.wrap .i64 (.shr (.wrap .u64 (.shl (.wrap .u64 (.a 0)) 48)) 48)) (.a 0)) (.at (.eq (.wrap .i64 (.shr (.wrap .u64 (.shl (.wrap .u64 (.a 0)) 48)) 48)) (.a 0)) true) (.at (.eq (.wrap .i64 (.shr (.wrap .u64 (.shl (.wrap .u64 (.a 0)) 48)) 48)) (.a 0)) false) (by kernel_rfl) (by kernel_rfl) h
  (fun h => immFalse_40 val h)
  (fun h => immFalse_41 val h)))))
  (fun h => by_way (.lt (.a 0) (.c (-32768))) (.le (.a 0) (-32769)) (.ge (.a 0) (-32768)) (by kernel_rfl) (by kernel_rfl) h
  (fun h => immFalse_42 val h)
  (fun h => by_way (.le (.c 65536) (.a 0)) (.ge (.a 0) 65536) (.le (.a 0) 65535) (by kernel_rfl) (by kernel_rfl) h
  (fun h => immFalse_43 val h)
  (fun h => by_way (.lt (.a 0) (.c 0)) (.le (.a 0) (-1)) (.ge (.a 0) 0) (by kernel_rfl) (by kernel_rfl) h
  (fun h => by_way (.eq (.c 0) (.wrap .i64 (.add (.a 0) (.c 65536)))) (.is (.wrap .i64 (.add (.a 0) (.c 65536))) 0) (.ne (.wrap .i64 (.add (.a 0) (.c 65536))) 0) (by kernel_rfl) (by kernel_rfl) h
  (fun h => immFalse_44 val h)
  (fun h => immFalse_45 val h))
  (fun h => by_way (.eq (.c 0) (.a 0)) (.is (.a 0) 0) (.ne (.a 0) 0) (by kernel_rfl) (by kernel_rfl) h
  (fun h => immFalse_46 val h)
  (fun h => immFalse_47 val h)))))

theorem immFalseSub3 (val : Nat → Int) (h : Holds val [.is (.a 1) 16, .ne (.a 1) 8, .ge (.a 0) (-9223372036854775808), .le (.a 0) 9223372036854775807]) : ImmQ false val :=
  by_way (.eq (.a 0) (.wrap .i64 (.shr (.wrap .u64 (.shl (.wrap .u64 (.a 0)) 48)) 48))) (.at (.eq (.a 0) (.wrap .i64 (.shr (.wrap .u64 (.shl (.wrap .u64 (.a 0)) 48)) 48))) true) (.at (.eq (.a 0) (.wrap .i64 (.shr (.wrap .u64 (.shl (.wrap .u64 (.a 0)) 48)) 48))) false) (by kernel_rfl) (by kernel_rfl) h
  (fun h => by_way (.lt (.a 0) (.c (-32768))) (.le (.a 0) (-32769)) (.ge (.a 0) (-32768)) (by kernel_rfl) (by kernel_rfl) h
  (fun h => by_way (.eq (.wrap .i64 (.shr (.wrap .u64 (.shl (.wrap .u64 (.a 0)) 48)) 48)) (.c 0)) (.is (.wrap .i64 (.shr (.wrap .u64 (.shl (.wrap .u64 (.a 0)) 48)) 48)) 0) (.ne (.wrap .i64 (.shr (.wrap .u64 (.shl (.wrap .u64 (.a 0)) 48)) 48)) 0) (by kernel_rfl) (by kernel_rfl) h
  (fun h => by_way (.eq (.a 0) (.shr (.wrap .i64 (.wrap .u64 (.shl (.wrap .u64 (.a 0)) 48))) 48)) (.at (.eq (.a 0) (.shr (.wrap .i64 (.wrap .u64 (.shl (.wrap .u64 (.a 0)) 48))) 48)) true) (.at (.eq (.a 0) (.shr (.wrap .i64 (.wrap .u64 (.shl (.wrap .u64 (.a 0)) 48))) 48)) false) (by kernel_rfl) (by kernel_rfl) h
  (fun h => immFalse_24 val h)
  (fun h => immFalse_25 val h))
  (fun h => immFalse_26 val h))
  (fun h => by_way (.le (.c 65536) (.a 0)) (.ge (.a 0) 65536) (.le (.a 0) 65535) (by kernel_rfl) (by kernel_rfl) h
  (fun h => by_way (.eq (.wrap .i64 (.shr (.wrap .u64 (.shl (.wrap .u64 (.a 0)) 48)) 48)) (.c 0)) (.is (.wrap .i64 (.shr (.wrap .u64 (.shl (.wrap .u64 (.a 0)) 48)) 48)) 0) (.ne (.wrap .i64 (.shr (.wrap .u64 (.shl (.wrap .u64 (.a 0)) 48)) 48)) 0) (by kernel_rfl) (by kernel_rfl) h
  (fun h => by_way (.eq (.a 0) (.shr (.wrap .i64 (.wrap .u64 (.shl (.wrap .u64 (.a 0)) 48))) 48)) (.at (.eq (.a 0) (.shr (.wrap .i64 (.wrap .u64 (.shl (.wrap .u64 (.a 0)) 48))) 48)) true) (.at (.eq (.a 0) (.shr (.wrap .i64 (.wrap .u64 (.shl (.wrap .u64 (.a 0)) 48))) 48)) false) (by kernel_rfl) (by kernel_rfl) h
  (fun h => immFalse_27 val h)
  (fun h => immFalse_28 val h))
  (fun h => immFalse_29 val h))
  (fun h => by_way (.lt (.a 0) (.c 0)) (.le (.a 0) (-1)) (.ge (.a 0) 0) (by kernel_rfl) (by kernel_rfl) h
  (fun h => by_way (.eq (.wrap .i64 (.shr (.wrap .u64 (.shl (.wrap .u64 (.a 0)) 48)) 48)) (.wrap .i64 (.add (.a 0) (.c 65536)))) (.at (.eq (.wrap .i64 (.shr (.wrap .u64 (.shl (.wrap .u64 (.a 0)) 48)) 48)) (.wrap .i64 (.add (.a 0) (.c 65536)))) true) (.at (.eq (.wrap .i64 (.shr (.wrap .u64 (.shl (.wrap .u64 (.a 0)) 48)) 48)) (.wrap .i64 (.add (.a 0) (.c 65536)))) false) (by kernel_rfl) (by kernel_rfl) h
  (fun h => immFalse_30 val h)
  (fun h => immFalse_31 val h))
  (fun h => by_way (.eq (.wrap .i64 (.shr (.wrap .u64 (.shl (.wrap .u64 (.a 0)) 48)) 48)) (.a 0)) (.at (.eq (.wrap .i64 (.shr (.wrap .u64 (.shl (.wrap .u64 (.a 0)) 48)) 48)) (.a 0)) true) (.at (.eq (.wrap .i64 (.shr (.wrap .u64 (.shl (.wrap .u64 (.a 0)) 48)) 48)) (.a 0)) false) (by kernel_rfl) (by kernel_rfl) h
  (fun h => immFalse_32 val h)
  (fun h => immFalse_33 val h)))))
  (fun h => immFalseSub4 val h)

theorem immFalseSub7 (val : Nat → Int) (h : Holds val [.at (.eq (.a 0) (.wrap .i64 (.shr (.wrap .u64 (.shl (.wrap .u64 (.a 0)) 32)) 32))) false, .is (.a 1) 32, .ne (.a 1) 16, .ne (.a 1) 8, .ge (.a 0) (-9223372036854775808), .le (.a 0) 9223372036854775807]) : ImmQ false val :=
  by_way (.eq (.a 0) (.shr (.wrap .i64 (.wrap .u64 (.shl (.wrap .u64 (.a 0)) 32))) 32)) (.at (.eq (.a 0) (.shr (.wrap .i64 (.wrap .u64 (.shl (.wrap .u64 (.a 0)) 32))) 32)) true) (.at (.eq (.a 0) (.shr (.wrap .i64 (.wrap .u64 (.shl (.wrap .u64 (.a 0)) 32))) 32)) false) (by kernel_rfl) (by kernel_rfl) h
  (fun h => by_way (.lt (.a 0) (.c (-2147483648))) (.le (.a 0) (-2147483649)) (.ge (.a 0) (-2147483648)) (by kernel_rfl) (by kernel_rfl) h
  (fun h => by_way (.eq (.wrap .i64 (.shr (.wrap .u64 (.shl (.wrap .u64 (.a 0)) 32)) 32)) (.c 0)) (.is (.wrap .i64 (.shr (.wrap .u64 (.shl (.wrap .u64 (.a 0)) 32)) 32)) 0) (.ne (.wrap .i64 (.shr (.wrap .u64 (.shl (.wrap .u64 (.a 0)) 32)) 32)) 0) (by kernel_rfl) (by kernel_rfl) h
  (fun h => immFalse_58 val h)
  (fun h => immFalse_59 val h))
  (fun h => by_way (.le (.c 4294967296) (.a 0)) (.ge (.a 0) 4294967296) (.le (.a 0) 4294967295) (by kernel_rfl) (by kernel_rfl) h
  (fun h => by_way (.eq (.wrap .i64 (.shr (.wrap .u64 (.shl (.wrap .u64 (.a 0)) 32)) 32)) (.c 0)) (.is (.wrap .i64 (.shr (.wrap .u64 (.shl (.wrap .u64 (.a 0)) 32)) 32)) 0) (.ne (.wrap .i64 (.shr (.wrap .u64 (.shl (.wrap .u64 (.a 0)) 32)) 32)) 0) (by kernel_rfl) (by kernel_rfl) h
  (fun h => immFalse_60 val h)
  (fun h => immFalse_61 val h))
  (fun h => by_way (.lt (.a 0) (.c 0)) (.le (.a 0) (-1)) (.ge (.a 0) 0) (by kernel_rfl) (by kernel_rfl) h
  (fun h => by_way (.eq (.wrap .i64 (.shr (.wrap .u64 (.shl (.wrap .u64 (.a 0)) 32)) 32)) (.wrap .i64 (.add (.a 0) (.c 4294967296)))) (.at (.eq (.wrap .i64 (.shr (.wrap .u64 (.shl (.wrap .u64 (.a 0)) 32)) 32)) (.wrap .i64 (.add (.a 0) (.c 4294967296)))) true) (.at (.eq (.wrap .i64 (.shr (.wrap .u64 (.shl (.wrap .u64 (.a 0)) 32)) 32)) (.wrap .i64 (.add (.a 0) (.c 4294967296)))) false) (by kernel_rfl) (by kernel_rfl) h
  (fun h => immFalse_62 val h)
  (fun h => immFalse_63 val h))
  (fun h => by_way (.eq (.wrap .i64 (.shr (.wrap .u64 (.shl (.wrap .u64 (.a 0)) 32)) 32)) (.a 0)) (.at (.eq (.wrap .i64 (.shr (.wrap .u64 (.shl (.wrap .u64 (.a 0)) 32)) 32)) (.a 0)) true) (.at (.eq (.wrap .i64 (.shr (.wrap .u64 (.shl (.wrap .u64 (.a 0)) 32)) 32)) (.a 0)) false) (by kernel_rfl) (by kernel_rfl) h
  (fun h => immFalse_64 val h)
  (fun h => immFalse_65 val h)))))
  (fun h => by_way (.lt (.a 0) (.c (-2147483648))) (.le (.a 0) (-2147483649)) (.ge (.a 0) (-2147483648)) (by kernel_rfl) (by kernel_rfl) h
  (fun h => immFalse_66 val h)
  (fun h => by_way (.le (.c 4294967296) (.a 0)) (.ge (.a 0) 4294967296) (.le (.a 0) 4294967295) (by kernel_rfl) (by kernel_rfl) h
  (fun h => immFalse_67 val h)
  (fun h => by_way (.lt (.a 0) (.c 0)) (.le (.a 0) (-1)) (.ge (.a 0) 0) (by kernel_rfl) (by kernel_rfl) h
  (fun h => by_way (.eq (.c 0) (.wrap .i64 (.add (.a 0) (.c 4294967296)))) (.is (.wrap .i64 (.add (.a 0) (.c 4294967296))) 0) (.ne (.wrap .i64 (.add (.a 0) (.c 4294967296))) 0) (by kernel_rfl) (by kernel_rfl) h
  (fun h => immFalse_68 val h)
  (fun h => immFalse_69 val h))
  (fun h => by_way (.eq (.c 0) (.a 0)) (.is (.a 0) 0) (.ne (.a 0) 0) (by kernel_rfl) (by kernel_rfl) h
  (fun h => immFalse_70 val h)
  (fun h => immFalse_71 val h)))))

theorem immFalseSub6 (val : Nat → Int) (h : Holds val [.is (.a 1) 32, .ne (.a 1) 16, .ne (.a 1) 8, .ge (.a 0) (-9223372036854775808), .le (.a 0) 9223372036854775807]) : ImmQ false val :=
  by_way (.eq (.a 0) (.wrap .i64 (.shr (.wrap .u64 (.shl (.wrap .u64 (.a 0)) 32)) 32))) (.at (.eq (.a 0) (.wrap .i64 (.shr (.wrap .u64 (.shl (.wrap .u64 (.a 0)) 32)) 32))) true) (.at (.eq (.a 0) (.wrap .i64 (.shr (.wrap .u64 (.shl (.wrap .u64 (.a 0)) 32)) 32))) false) (by kernel_rfl) (by kernel_rfl) h
  (fun h => by_way (.lt (.a 0) (.c (-2147483648))) (.le (.a 0) (-2147483649)) (.ge (.a 0) (-2147483648)) (by kernel_rfl) (by kernel_rfl) h
  (fun h => by_way (.eq (.wrap .i64 (.shr (.wrap .u64 (.shl (.wrap .u64 (.a 0)) 32)) 32)) (.c 0)) (.is (.wrap .i64 (.shr (.wrap .u64 (.shl (.wrap .u64 (.a 0)) 32)) 32)) 0) (.ne (.wrap .i64 (.shr (.wrap .u64 (.shl (.wrap .u64 (.a 0)) 32)) 32)) 0) (by kernel_rfl) (by kernel_rfl) h
  (fun h => by_way (.eq (.a 0) (.shr (.wrap .i64 (.wrap .u64 (.shl (.wrap .u64 (.a 0)) 32))) 32)) (.at (.eq (.a 0) (.shr (.wrap .i64 (.wrap .u64 (.shl (.wrap .u64 (.a 0)) 32))) 32)) true) (.at (.eq (.a 0) (.shr (.wrap .i64 (.wrap .u64 (.shl (.wrap .u64 (.a 0)) 32))) 32)) false) (by kernel_rfl) (by kernel_rfl) h
  (fun h => immFalse_48 val h)
  (fun h => immFalse_49 val h))
  (fun h => immFalse_50 val h))
  (fun h => by_way (.le (.c 4294967296) (.a 0)) (.ge (.a 0) 4294967296) (.le (.a 0) 4294967295) (by kernel_rfl) (by kernel_rfl) h
  (fun h => by_way (.eq (.wrap .i64 (.shr (.wrap .u64 (.shl (.wrap .u64 (.a 0)) 32)) 32)) (.c 0)) (.is (.wrap .i64 (.shr (.wrap .u64 (.shl (.wrap .u64 (.a 0)) 32)) 32)) 0) (.ne (.wrap .i64 (.shr (.wrap .u64 (.shl (.wrap .u64 (.a 0)) 32)) 32)) 0) (by kernel_rfl) (by kernel_rfl) h
  (fun h => by_way (.eq (.a 0) (.shr (.wrap .i64 (.wrap .u64 (.shl (.wrap .u64 (.a 0)) 32))) 32)) (.at (.eq (.a 0) (.shr (.wrap .i64 (.wrap .u64 (.shl (.wrap .u64 (.a 0)) 32))) 32)) true) (.at (.eq (.a 0) (.shr (.wrap .i64 (.wrap .u64 (.shl (.wrap .u64 (.a 0)) 32))) 32)) false) (by kernel_rfl) (by kernel_rfl) h
  (fun h => immFalse_51 val h)
  (fun h => immFalse_52 val h))
  (fun h => immFalse_53 val h))
  (fun h => by_way (.lt (.a 0) (.c 0)) (.le (.a 0) (-1)) (.ge (.a 0) 0) (by kernel_rfl) (by kernel_rfl) h
  (fun h => by_way (.eq (.wrap .i64 (.shr (.wrap .u64 (.shl (.wrap .u64 (.a 0)) 32)) 32)) (.wrap .i64 (.add (.a 0) (.c 4294967296)))) (.at (.eq (.wrap .i64 (.shr (.wrap .u64 (.shl (.wrap .u64 (.a 0)) 32)) 32)) (.wrap .i64 (.add (.a 0) (.c 4294967296)))) true) (.at (.eq (.wrap .i64 (.shr (.wrap .u64 (.shl (.wrap .u64 (.a 0)) 32)) 32)) (.wrap .i64 (.add (.a 0) (.c 4294967296)))) false) (by kernel_rfl) (by kernel_rfl) h
  (fun h => immFalse_54 val h)
  (fun h => immFalse_55 val h))
  (fun h => by_way (.eq (.wrap .i64 (.shr (.wrap .u64 (.shl (.wrap .u64 (.a 0)) 32)) 32)) (.a 0)) (.at (.eq (.wrap .i64 (.shr (.wrap .u64 (.shl (.wrap .u64 (.a 0)) 32)) 32)) (.a 0)) true) (.at (.eq (.wrap .i64 (.shr (.wrap .u64 (.shl (.wrap .u64 (.a 0)) 32)) 32)) (.a 0)) false) (by kernel_rfl) (by kernel_rfl) h
  (fun h => immFalse_56 val h)
  (fun h => immFalse_57 val h)))))
  (fun h => immFalseSub7 val h)

theorem immFalseSub5 (val : Nat → Int) (h : Holds val [.ne (.a 1) 16, .ne (.a 1) 8, .ge (.a 0) (-9223372036854775808), .le (.a 0) 9223372036854775807]) : ImmQ false val :=
  by_way (.eq (.a 1) (.c 32)) (.is (.a 1) 32) (.ne (.a 1) 32) (by kernel_rfl) (by kernel_rfl) h
  (fun h => immFalseSub6 val h)
  (fun h => by_way (.eq (.a 1) (.c 64)) (.is (.a 1) 64) (.ne (.a 1) 64) (by kernel_rfl) (by kernel_rfl) h
  (fun h => by_way (.eq (.a 0) (.wrap .i64 (.shr (.wrap .u64 (.shl (.wrap .u64 (.a 0)) 0)) 0))) (.at (.eq (.a 0) (.wrap .i64 (.shr (.wrap .u64 (.shl (.wrap .u64 (.a 0)) 0)) 0))) true) (.at (.eq (.a 0) (.wrap .i64 (.shr (.wrap .u64 (.shl (.wrap .u64 (.a 0)) 0)) 0))) false) (by kernel_rfl) (by kernel_rfl) h
  (fun h => by_way (.eq (.wrap .i64 (.shr (.wrap .u64 (.shl (.wrap .u64 (.a 0)) 0)) 0)) (.a 0)) (.at (.eq (.wrap .i64 (.shr (.wrap .u64 (.shl (.wrap .u64 (.a 0)) 0)) 0)) (.a 0)) true) (.at (.eq (.wrap .i64 (.shr (.wrap .u64 (.shl (.wrap .u64 (.a 0)) 0)) 0)) (.a 0)) false) (by kernel_rfl) (by kernel_rfl) h
  (fun h => immFalse_72 val h)
  (fun h => immFalse_73 val h))
  (fun h => by_way (.eq (.a 0) (.shr (.wrap .i64 (.wrap .u64 (.shl (.wrap .u64 (.a 0)) 0))) 0)) (.at (.eq (.a 0) (.shr (.wrap .i64 (.wrap .u64 (.shl (.wrap .u64 (.a 0)) 0))) 0)) true) (.at (.eq (.a 0) (.shr (.wrap .i64 (.wrap .u64 (.shl (.wrap .u64 (.a 0)) 0))) 0)) false) (by kernel_rfl) (by kernel_rfl) h
  (fun h => by_way (.eq (.wrap .i64 (.shr (.wrap .u64 (.shl (.wrap .u64 (.a 0)) 0)) 0)) (.a 0)) (.at (.eq (.wrap .i64 (.shr (.wrap .u64 (.shl (.wrap .u64 (.a 0)) 0)) 0)) (.a 0)) true) (.at (.eq (.wrap .i64 (.shr (.wrap .u64 (.shl (.wrap .u64 (.a 0)) 0)) 0)) (.a 0)) false) (by kernel_rfl) (by kernel_rfl) h
  (fun h => immFalse_74 val h)
  (fun h => immFalse_75 val h))
  (fun h => by_way (.eq (.c 0) (.a 0)) (.is (.a 0) 0) (.ne (.a 0) 0) (by kernel_rfl) (by kernel_rfl) h
  (fun h => immFalse_76 val h)
  (fun h => immFalse_77 val h))))
  (fun h => immFalse_78 val h))

theorem immFalseSub2 (val : Nat → Int) (h : Holds val [.ne (.a 1) 8, .ge (.a 0) (-9223372036854775808), .le (.a 0) 9223372036854775807]) : ImmQ false val :=
  by_way (.eq (.a 1) (.c 16)) (.is (.a 1) 16) (.ne (.a 1) 16) (by kernel_rfl) (by kernel_rfl) h
  (fun h => immFalseSub3 val h)
  (fun h => immFalseSub5 val h)

theorem immFalse (val : Nat → Int) (h : Holds val [.ge (.a 0) (-9223372036854775808), .le (.a 0) 9223372036854775807]) : ImmQ false val :=
  by_way (.eq (.a 1) (.c 8)) (.is (.a 1) 8) (.ne (.a 1) 8) (by kernel_rfl) (by kernel_rfl) h
  (fun h => immFalseSub0 val h)
  (fun h => immFalseSub2 val h)

end Go.Proofs.Ytclhjdddakmafaa.Tab
