/-
  Ways through the code, part 1.
-/
import Derived.Test.YtclhjdddakmafaaImmH
namespace Go.Proofs.Ytclhjdddakmafaa.Tab
open Go.Sim
set_option maxRecDepth 100000
set_option linter.unusedSimpArgs false

theorem immTrue_0 (val : Nat → Int) (h : Holds val [.is (.shr (.wrap .i64 (.wrap .u64 (.shl (.wrap .u64 (.a 0)) 56))) 56) 0, .le (.a 0) (-129), .at (.eq (.a 0) (.wrap .i64 (.shr (.wrap .u64 (.shl (.wrap .u64 (.a 0)) 56)) 56))) true, .is (.a 1) 8, .ge (.a 0) (-9223372036854775808), .le (.a 0) 9223372036854775807]) : ImmQ true val := by
  exfalso
  have hb : Holds val (List.drop 4 _) := fun f hf => h f (List.mem_of_mem_drop hf)
  have ha : Holds val (List.take 1 _) := fun f hf => h f (List.mem_of_mem_take hf)
  have hc : Holds val (List.take 2 _) := fun f hf => h f (List.mem_of_mem_take hf)
  simp only [List.take_succ_cons, List.take_zero, List.drop_succ_cons, List.drop_zero, Holds, List.forall_mem_cons, List.not_mem_nil, false_implies, implies_true, and_true, Fact.holds, SB.eval, SX.eval, wrapU, wrapI, fdivP, tmodP, beq_iff_eq, beq_eq_false_iff_ne, decide_eq_true_eq, decide_eq_false_iff_not, ne_eq] at h ha hb hc
  simp only [Int.reducePow] at h ha hb hc
  first | (clear h hc; omega) | (clear h; omega) | omega

theorem immTrue_1 (val : Nat → Int) (h : Holds val [.ne (.shr (.wrap .i64 (.wrap .u64 (.shl (.wrap .u64 (.a 0)) 56))) 56) 0, .le (.a 0) (-129), .at (.eq (.a 0) (.wrap .i64 (.shr (.wrap .u64 (.shl (.wrap .u64 (.a 0)) 56)) 56))) true, .is (.a 1) 8, .ge (.a 0) (-9223372036854775808), .le (.a 0) 9223372036854775807]) : ImmQ true val := by
  exfalso
  have hb : Holds val (List.drop 4 _) := fun f hf => h f (List.mem_of_mem_drop hf)
  have ha : Holds val (List.take 1 _) := fun f hf => h f (List.mem_of_mem_take hf)
  have hc : Holds val (List.take 2 _) := fun f hf => h f (List.mem_of_mem_take hf)
  simp only [List.take_succ_cons, List.take_zero, List.drop_succ_cons, List.drop_zero, Holds, List.forall_mem_cons, List.not_mem_nil, false_implies, implies_true, and_true, Fact.holds, SB.eval, SX.eval, wrapU, wrapI, fdivP, tmodP, beq_iff_eq, beq_eq_false_iff_ne, decide_eq_true_eq, decide_eq_false_iff_not, ne_eq] at h ha hb hc
  simp only [Int.reducePow] at h ha hb hc
  first | (clear h hc; omega) | (clear h; omega) | omega

theorem immTrue_2 (val : Nat → Int) (h : Holds val [.is (.shr (.wrap .i64 (.wrap .u64 (.shl (.wrap .u64 (.a 0)) 56))) 56) 0, .ge (.a 0) 256, .ge (.a 0) (-128), .at (.eq (.a 0) (.wrap .i64 (.shr (.wrap .u64 (.shl (.wrap .u64 (.a 0)) 56)) 56))) true, .is (.a 1) 8, .ge (.a 0) (-9223372036854775808), .le (.a 0) 9223372036854775807]) : ImmQ true val := by
  exfalso
  have hb : Holds val (List.drop 5 _) := fun f hf => h f (List.mem_of_mem_drop hf)
  have ha : Holds val (List.take 1 _) := fun f hf => h f (List.mem_of_mem_take hf)
  have hc : Holds val (List.take 2 _) := fun f hf => h f (List.mem_of_mem_take hf)
  simp only [List.take_succ_cons, List.take_zero, List.drop_succ_cons, List.drop_zero, Holds, List.forall_mem_cons, List.not_mem_nil, false_implies, implies_true, and_true, Fact.holds, SB.eval, SX.eval, wrapU, wrapI, fdivP, tmodP, beq_iff_eq, beq_eq_false_iff_ne, decide_eq_true_eq, decide_eq_false_iff_not, ne_eq] at h ha hb hc
  simp only [Int.reducePow] at h ha hb hc
  first | (clear h hc; omega) | (clear h; omega) | omega

theorem immTrue_3 (val : Nat → Int) (h : Holds val [.ne (.shr (.wrap .i64 (.wrap .u64 (.shl (.wrap .u64 (.a 0)) 56))) 56) 0, .ge (.a 0) 256, .ge (.a 0) (-128), .at (.eq (.a 0) (.wrap .i64 (.shr (.wrap .u64 (.shl (.wrap .u64 (.a 0)) 56)) 56))) true, .is (.a 1) 8, .ge (.a 0) (-9223372036854775808), .le (.a 0) 9223372036854775807]) : ImmQ true val := by
  exfalso
  have hb : Holds val (List.drop 5 _) := fun f hf => h f (List.mem_of_mem_drop hf)
  have ha : Holds val (List.take 1 _) := fun f hf => h f (List.mem_of_mem_take hf)
  have hc : Holds val (List.take 2 _) := fun f hf => h f (List.mem_of_mem_take hf)
  simp only [List.take_succ_cons, List.take_zero, List.drop_succ_cons, List.drop_zero, Holds, List.forall_mem_cons, List.not_mem_nil, false_implies, implies_true, and_true, Fact.holds, SB.eval, SX.eval, wrapU, wrapI, fdivP, tmodP, beq_iff_eq, beq_eq_false_iff_ne, decide_eq_true_eq, decide_eq_false_iff_not, ne_eq] at h ha hb hc
  simp only [Int.reducePow] at h ha hb hc
  first | (clear h hc; omega) | (clear h; omega) | omega

theorem immTrue_4 (val : Nat → Int) (h : Holds val [.at (.eq (.shr (.wrap .i64 (.wrap .u64 (.shl (.wrap .u64 (.a 0)) 56))) 56) (.wrap .i64 (.sub (.a 0) (.c 256)))) true, .ge (.a 0) 128, .le (.a 0) 255, .ge (.a 0) (-128), .at (.eq (.a 0) (.wrap .i64 (.shr (.wrap .u64 (.shl (.wrap .u64 (.a 0)) 56)) 56))) true, .is (.a 1) 8, .ge (.a 0) (-9223372036854775808), .le (.a 0) 9223372036854775807]) : ImmQ true val :=
  leafI h (by kernel_rfl)

theorem immTrue_5 (val : Nat → Int) (h : Holds val [.at (.eq (.shr (.wrap .i64 (.wrap .u64 (.shl (.wrap .u64 (.a 0)) 56))) 56) (.wrap .i64 (.sub (.a 0) (.c 256)))) false, .ge (.a 0) 128, .le (.a 0) 255, .ge (.a 0) (-128), .at (.eq (.a 0) (.wrap .i64 (.shr (.wrap .u64 (.shl (.wrap .u64 (.a 0)) 56)) 56))) true, .is (.a 1) 8, .ge (.a 0) (-9223372036854775808), .le (.a 0) 9223372036854775807]) : ImmQ true val := by
  exfalso
  have hb : Holds val (List.drop 6 _) := fun f hf => h f (List.mem_of_mem_drop hf)
  have ha : Holds val (List.take 1 _) := fun f hf => h f (List.mem_of_mem_take hf)
  have hc : Holds val (List.take 2 _) := fun f hf => h f (List.mem_of_mem_take hf)
  simp only [List.take_succ_cons, List.take_zero, List.drop_succ_cons, List.drop_zero, Holds, List.forall_mem_cons, List.not_mem_nil, false_implies, implies_true, and_true, Fact.holds, SB.eval, SX.eval, wrapU, wrapI, fdivP, tmodP, beq_iff_eq, beq_eq_false_iff_ne, decide_eq_true_eq, decide_eq_false_iff_not, ne_eq] at h ha hb hc
  simp only [Int.reducePow] at h ha hb hc
  first | (clear h hc; omega) | (clear h; omega) | omega

theorem immTrue_6 (val : Nat → Int) (h : Holds val [.at (.eq (.shr (.wrap .i64 (.wrap .u64 (.shl (.wrap .u64 (.a 0)) 56))) 56) (.a 0)) true, .le (.a 0) 127, .le (.a 0) 255, .ge (.a 0) (-128), .at (.eq (.a 0) (.wrap .i64 (.shr (.wrap .u64 (.shl (.wrap .u64 (.a 0)) 56)) 56))) true, .is (.a 1) 8, .ge (.a 0) (-9223372036854775808), .le (.a 0) 9223372036854775807]) : ImmQ true val :=
  leafI h (by kernel_rfl)

theorem immTrue_7 (val : Nat → Int) (h : Holds val [.at (.eq (.shr (.wrap .i64 (.wrap .u64 (.shl (.wrap .u64 (.a 0)) 56))) 56) (.a 0)) false, .le (.a 0) 127, .le (.a 0) 255, .ge (.a 0) (-128), .at (.eq (.a 0) (.wrap .i64 (.shr (.wrap .u64 (.shl (.wrap .u64 (.a 0)) 56)) 56))) true, .is (.a 1) 8, .ge (.a 0) (-9223372036854775808), .le (.a 0) 9223372036854775807]) : ImmQ true val := by
  exfalso
  have hb : Holds val (List.drop 6 _) := fun f hf => h f (List.mem_of_mem_drop hf)
  have ha : Holds val (List.take 1 _) := fun f hf => h f (List.mem_of_mem_take hf)
  have hc : Holds val (List.take 2 _) := fun f hf => h f (List.mem_of_mem_take hf)
  simp only [List.take_succ_cons, List.take_zero, List.drop_succ_cons, List.drop_zero, Holds, List.forall_mem_cons, List.not_mem_nil, false_implies, implies_true, and_true, Fact.holds, SB.eval, SX.eval, wrapU, wrapI, fdivP, tmodP, beq_iff_eq, beq_eq_false_iff_ne, decide_eq_true_eq, decide_eq_false_iff_not, ne_eq] at h ha hb hc
  simp only [Int.reducePow] at h ha hb hc
  first | (clear h hc; omega) | (clear h; omega) | omega

theorem immTrue_8 (val : Nat → Int) (h : Holds val [.is (.shr (.wrap .i64 (.wrap .u64 (.shl (.wrap .u64 (.a 0)) 56))) 56) 0, .le (.a 0) (-129), .at (.eq (.a 0) (.shr (.wrap .i64 (.wrap .u64 (.shl (.wrap .u64 (.a 0)) 56))) 56)) true, .at (.eq (.a 0) (.wrap .i64 (.shr (.wrap .u64 (.shl (.wrap .u64 (.a 0)) 56)) 56))) false, .is (.a 1) 8, .ge (.a 0) (-9223372036854775808), .le (.a 0) 9223372036854775807]) : ImmQ true val :=
  leafI h (by kernel_rfl)

theorem immTrue_9 (val : Nat → Int) (h : Holds val [.ne (.shr (.wrap .i64 (.wrap .u64 (.shl (.wrap .u64 (.a 0)) 56))) 56) 0, .le (.a 0) (-129), .at (.eq (.a 0) (.shr (.wrap .i64 (.wrap .u64 (.shl (.wrap .u64 (.a 0)) 56))) 56)) true, .at (.eq (.a 0) (.wrap .i64 (.shr (.wrap .u64 (.shl (.wrap .u64 (.a 0)) 56)) 56))) false, .is (.a 1) 8, .ge (.a 0) (-9223372036854775808), .le (.a 0) 9223372036854775807]) : ImmQ true val := by
  exfalso
  have hb : Holds val (List.drop 5 _) := fun f hf => h f (List.mem_of_mem_drop hf)
  have ha : Holds val (List.take 1 _) := fun f hf => h f (List.mem_of_mem_take hf)
  have hc : Holds val (List.take 2 _) := fun f hf => h f (List.mem_of_mem_take hf)
  simp only [List.take_succ_cons, List.take_zero, List.drop_succ_cons, List.drop_zero, Holds, List.forall_mem_cons, List.not_mem_nil, false_implies, implies_true, and_true, Fact.holds, SB.eval, SX.eval, wrapU, wrapI, fdivP, tmodP, beq_iff_eq, beq_eq_false_iff_ne, decide_eq_true_eq, decide_eq_false_iff_not, ne_eq] at h ha hb hc
  simp only [Int.reducePow] at h ha hb hc
  first | (clear h hc; omega) | (clear h; omega) | omega

theorem immTrue_10 (val : Nat → Int) (h : Holds val [.is (.shr (.wrap .i64 (.wrap .u64 (.shl (.wrap .u64 (.a 0)) 56))) 56) 0, .ge (.a 0) 256, .ge (.a 0) (-128), .at (.eq (.a 0) (.shr (.wrap .i64 (.wrap .u64 (.shl (.wrap .u64 (.a 0)) 56))) 56)) true, .at (.eq (.a 0) (.wrap .i64 (.shr (.wrap .u64 (.shl (.wrap .u64 (.a 0)) 56)) 56))) false, .is (.a 1) 8, .ge (.a 0) (-9223372036854775808), .le (.a 0) 9223372036854775807]) : ImmQ true val :=
  leafI h (by kernel_rfl)

theorem immTrue_11 (val : Nat → Int) (h : Holds val [.ne (.shr (.wrap .i64 (.wrap .u64 (.shl (.wrap .u64 (.a 0)) 56))) 56) 0, .ge (.a 0) 256, .ge (.a 0) (-128), .at (.eq (.a 0) (.shr (.wrap .i64 (.wrap .u64 (.shl (.wrap .u64 (.a 0)) 56))) 56)) true, .at (.eq (.a 0) (.wrap .i64 (.shr (.wrap .u64 (.shl (.wrap .u64 (.a 0)) 56)) 56))) false, .is (.a 1) 8, .ge (.a 0) (-9223372036854775808), .le (.a 0) 9223372036854775807]) : ImmQ true val := by
  exfalso
  have hb : Holds val (List.drop 6 _) := fun f hf => h f (List.mem_of_mem_drop hf)
  have ha : Holds val (List.take 1 _) := fun f hf => h f (List.mem_of_mem_take hf)
  have hc : Holds val (List.take 2 _) := fun f hf => h f (List.mem_of_mem_take hf)
  simp only [List.take_succ_cons, List.take_zero, List.drop_succ_cons, List.drop_zero, Holds, List.forall_mem_cons, List.not_mem_nil, false_implies, implies_true, and_true, Fact.holds, SB.eval, SX.eval, wrapU, wrapI, fdivP, tmodP, beq_iff_eq, beq_eq_false_iff_ne, decide_eq_true_eq, decide_eq_false_iff_not, ne_eq] at h ha hb hc
  simp only [Int.reducePow] at h ha hb hc
  first | (clear h hc; omega) | (clear h; omega) | omega

theorem immTrue_12 (val : Nat → Int) (h : Holds val [.at (.eq (.shr (.wrap .i64 (.wrap .u64 (.shl (.wrap .u64 (.a 0)) 56))) 56) (.wrap .i64 (.sub (.a 0) (.c 256)))) true, .ge (.a 0) 128, .le (.a 0) 255, .ge (.a 0) (-128), .at (.eq (.a 0) (.shr (.wrap .i64 (.wrap .u64 (.shl (.wrap .u64 (.a 0)) 56))) 56)) true, .at (.eq (.a 0) (.wrap .i64 (.shr (.wrap .u64 (.shl (.wrap .u64 (.a 0)) 56)) 56))) false, .is (.a 1) 8, .ge (.a 0) (-9223372036854775808), .le (.a 0) 9223372036854775807]) : ImmQ true val :=
  leafI h (by kernel_rfl)

theorem immTrue_13 (val : Nat → Int) (h : Holds val [.at (.eq (.shr (.wrap .i64 (.wrap .u64 (.shl (.wrap .u64 (.a 0)) 56))) 56) (.wrap .i64 (.sub (.a 0) (.c 256)))) false, .ge (.a 0) 128, .le (.a 0) 255, .ge (.a 0) (-128), .at (.eq (.a 0) (.shr (.wrap .i64 (.wrap .u64 (.shl (.wrap .u64 (.a 0)) 56))) 56)) true, .at (.eq (.a 0) (.wrap .i64 (.shr (.wrap .u64 (.shl (.wrap .u64 (.a 0)) 56)) 56))) false, .is (.a 1) 8, .ge (.a 0) (-9223372036854775808), .le (.a 0) 9223372036854775807]) : ImmQ true val := by
  exfalso
  have hb : Holds val (List.drop 7 _) := fun f hf => h f (List.mem_of_mem_drop hf)
  have ha : Holds val (List.take 1 _) := fun f hf => h f (List.mem_of_mem_take hf)
  have hc : Holds val (List.take 2 _) := fun f hf => h f (List.mem_of_mem_take hf)
  simp only [List.take_succ_cons, List.take_zero, List.drop_succ_cons, List.drop_zero, Holds, List.forall_mem_cons, List.not_mem_nil, false_implies, implies_true, and_true, Fact.holds, SB.eval, SX.eval, wrapU, wrapI, fdivP, tmodP, beq_iff_eq, beq_eq_false_iff_ne, decide_eq_true_eq, decide_eq_false_iff_not, ne_eq] at h ha hb hc
  simp only [Int.reducePow] at h ha hb hc
  first | (clear h hc; omega) | (clear h; omega) | omega

theorem immTrue_14 (val : Nat → Int) (h : Holds val [.at (.eq (.shr (.wrap .i64 (.wrap .u64 (.shl (.wrap .u64 (.a 0)) 56))) 56) (.a 0)) true, .le (.a 0) 127, .le (.a 0) 255, .ge (.a 0) (-128), .at (.eq (.a 0) (.shr (.wrap .i64 (.wrap .u64 (.shl (.wrap .u64 (.a 0)) 56))) 56)) true, .at (.eq (.a 0) (.wrap .i64 (.shr (.wrap .u64 (.shl (.wrap .u64 (.a 0)) 56)) 56))) false, .is (.a 1) 8, .ge (.a 0) (-9223372036854775808), .le (.a 0) 9223372036854775807]) : ImmQ true val :=
  leafI h (by kernel_rfl)

theorem immTrue_15 (val : Nat → Int) (h : Holds val [.at (.eq (.shr (.wrap .i64 (.wrap .u64 (.shl (.wrap .u64 (.a 0)) 56))) 56) (.a 0)) false, .le (.a 0) 127, .le (.a 0) 255, .ge (.a 0) (-128), .at (.eq (.a 0) (.shr (.wrap .i64 (.wrap .u64 (.shl (.wrap .u64 (.a 0)) 56))) 56)) true, .at (.eq (.a 0) (.wrap .i64 (.shr (.wrap .u64 (.shl (.wrap .u64 (.a 0)) 56)) 56))) false, .is (.a 1) 8, .ge (.a 0) (-9223372036854775808), .le (.a 0) 9223372036854775807]) : ImmQ true val := by
  exfalso
  have hb : Holds val (List.drop 7 _) := fun f hf => h f (List.mem_of_mem_drop hf)
  have ha : Holds val (List.take 1 _) := fun f hf => h f (List.mem_of_mem_take hf)
  have hc : Holds val (List.take 2 _) := fun f hf => h f (List.mem_of_mem_take hf)
  simp only [List.take_succ_cons, List.take_zero, List.drop_succ_cons, List.drop_zero, Holds, List.forall_mem_cons, List.not_mem_nil, false_implies, implies_true, and_true, Fact.holds, SB.eval, SX.eval, wrapU, wrapI, fdivP, tmodP, beq_iff_eq, beq_eq_false_iff_ne, decide_eq_true_eq, decide_eq_false_iff_not, ne_eq] at h ha hb hc
  simp only [Int.reducePow] at h ha hb hc
  first | (clear h hc; omega) | (clear h; omega) | omega

theorem immTrue_16 (val : Nat → Int) (h : Holds val [.le (.a 0) (-129), .at (.eq (.a 0) (.shr (.wrap .i64 (.wrap .u64 (.shl (.wrap .u64 (.a 0)) 56))) 56)) false, .at (.eq (.a 0) (.wrap .i64 (.shr (.wrap .u64 (.shl (.wrap .u64 (.a 0)) 56)) 56))) false, .is (.a 1) 8, .ge (.a 0) (-9223372036854775808), .le (.a 0) 9223372036854775807]) : ImmQ true val :=
  leafI h (by kernel_rfl)

theorem immTrue_17 (val : Nat → Int) (h : Holds val [.ge (.a 0) 256, .ge (.a 0) (-128), .at (.eq (.a 0) (.shr (.wrap .i64 (.wrap .u64 (.shl (.wrap .u64 (.a 0)) 56))) 56)) false, .at (.eq (.a 0) (.wrap .i64 (.shr (.wrap .u64 (.shl (.wrap .u64 (.a 0)) 56)) 56))) false, .is (.a 1) 8, .ge (.a 0) (-9223372036854775808), .le (.a 0) 9223372036854775807]) : ImmQ true val :=
  leafI h (by kernel_rfl)

theorem immTrue_18 (val : Nat → Int) (h : Holds val [.is (.wrap .i64 (.sub (.a 0) (.c 256))) 0, .ge (.a 0) 128, .le (.a 0) 255, .ge (.a 0) (-128), .at (.eq (.a 0) (.shr (.wrap .i64 (.wrap .u64 (.shl (.wrap .u64 (.a 0)) 56))) 56)) false, .at (.eq (.a 0) (.wrap .i64 (.shr (.wrap .u64 (.shl (.wrap .u64 (.a 0)) 56)) 56))) false, .is (.a 1) 8, .ge (.a 0) (-9223372036854775808), .le (.a 0) 9223372036854775807]) : ImmQ true val := by
  exfalso
  have hb : Holds val (List.drop 7 _) := fun f hf => h f (List.mem_of_mem_drop hf)
  have ha : Holds val (List.take 1 _) := fun f hf => h f (List.mem_of_mem_take hf)
  have hc : Holds val (List.take 2 _) := fun f hf => h f (List.mem_of_mem_take hf)
  simp only [List.take_succ_cons, List.take_zero, List.drop_succ_cons, List.drop_zero, Holds, List.forall_mem_cons, List.not_mem_nil, false_implies, implies_true, and_true, Fact.holds, SB.eval, SX.eval, wrapU, wrapI, fdivP, tmodP, beq_iff_eq, beq_eq_false_iff_ne, decide_eq_true_eq, decide_eq_false_iff_not, ne_eq] at h ha hb hc
  simp only [Int.reducePow] at h ha hb hc
  first | (clear h hc; omega) | (clear h; omega) | omega

theorem immTrue_19 (val : Nat → Int) (h : Holds val [.ne (.wrap .i64 (.sub (.a 0) (.c 256))) 0, .ge (.a 0) 128, .le (.a 0) 255, .ge (.a 0) (-128), .at (.eq (.a 0) (.shr (.wrap .i64 (.wrap .u64 (.shl (.wrap .u64 (.a 0)) 56))) 56)) false, .at (.eq (.a 0) (.wrap .i64 (.shr (.wrap .u64 (.shl (.wrap .u64 (.a 0)) 56)) 56))) false, .is (.a 1) 8, .ge (.a 0) (-9223372036854775808), .le (.a 0) 9223372036854775807]) : ImmQ true val := by
  exfalso
  have hb : Holds val (List.drop 7 _) := fun f hf => h f (List.mem_of_mem_drop hf)
  have ha : Holds val (List.take 1 _) := fun f hf => h f (List.mem_of_mem_take hf)
  have hc : Holds val (List.take 2 _) := fun f hf => h f (List.mem_of_mem_take hf)
  simp only [List.take_succ_cons, List.take_zero, List.drop_succ_cons, List.drop_zero, Holds, List.forall_mem_cons, List.not_mem_nil, false_implies, implies_true, and_true, Fact.holds, SB.eval, SX.eval, wrapU, wrapI, fdivP, tmodP, beq_iff_eq, beq_eq_false_iff_ne, decide_eq_true_eq, decide_eq_false_iff_not, ne_eq] at h ha hb hc
  simp only [Int.reducePow] at h ha hb hc
  first | (clear h hc; omega) | (clear h; omega) | omega

theorem immTrue_20 (val : Nat → Int) (h : Holds val [.is (.a 0) 0, .le (.a 0) 127, .le (.a 0) 255, .ge (.a 0) (-128), .at (.eq (.a 0) (.shr (.wrap .i64 (.wrap .u64 (.shl (.wrap .u64 (.a 0)) 56))) 56)) false, .at (.eq (.a 0) (.wrap .i64 (.shr (.wrap .u64 (.shl (.wrap .u64 (.a 0)) 56)) 56))) false, .is (.a 1) 8, .ge (.a 0) (-9223372036854775808), .le (.a 0) 9223372036854775807]) : ImmQ true val :=
  leafI h (by kernel_rfl)

theorem immTrue_21 (val : Nat → Int) (h : Holds val [.ne (.a 0) 0, .le (.a 0) 127, .le (.a 0) 255, .ge (.a 0) (-128), .at (.eq (.a 0) (.shr (.wrap .i64 (.wrap .u64 (.shl (.wrap .u64 (.a 0)) 56))) 56)) false, .at (.eq (.a 0) (.wrap .i64 (.shr (.wrap .u64 (.shl (.wrap .u64 (.a 0)) 56)) 56))) false, .is (.a 1) 8, .ge (.a 0) (-9223372036854775808), .le (.a 0) 9223372036854775807]) : ImmQ true val := by
  exfalso
  have hb : Holds val (List.drop 7 _) := fun f hf => h f (List.mem_of_mem_drop hf)
  have ha : Holds val (List.take 1 _) := fun f hf => h f (List.mem_of_mem_take hf)
  have hc : Holds val (List.take 2 _) := fun f hf => h f (List.mem_of_mem_take hf)
  simp only [List.take_succ_cons, List.take_zero, List.drop_succ_cons, List.drop_zero, Holds, List.forall_mem_cons, List.not_mem_nil, false_implies, implies_true, and_true, Fact.holds, SB.eval, SX.eval, wrapU, wrapI, fdivP, tmodP, beq_iff_eq, beq_eq_false_iff_ne, decide_eq_true_eq, decide_eq_false_iff_not, ne_eq] at h ha hb hc
  simp only [Int.reducePow] at h ha hb hc
  first | (clear h hc; omega) | (clear h; omega) | omega

theorem immTrue_22 (val : Nat → Int) (h : Holds val [.is (.shr (.wrap .i64 (.wrap .u64 (.shl (.wrap .u64 (.a 0)) 48))) 48) 0, .le (.a 0) (-32769), .at (.eq (.a 0) (.wrap .i64 (.shr (.wrap .u64 (.shl (.wrap .u64 (.a 0)) 48)) 48))) true, .is (.a 1) 16, .ne (.a 1) 8, .ge (.a 0) (-9223372036854775808), .le (.a 0) 9223372036854775807]) : ImmQ true val := by
  exfalso
  have hb : Holds val (List.drop 5 _) := fun f hf => h f (List.mem_of_mem_drop hf)
  have ha : Holds val (List.take 1 _) := fun f hf => h f (List.mem_of_mem_take hf)
  have hc : Holds val (List.take 2 _) := fun f hf => h f (List.mem_of_mem_take hf)
  simp only [List.take_succ_cons, List.take_zero, List.drop_succ_cons, List.drop_zero, Holds, List.forall_mem_cons, List.not_mem_nil, false_implies, implies_true, and_true, Fact.holds, SB.eval, SX.eval, wrapU, wrapI, fdivP, tmodP, beq_iff_eq, beq_eq_false_iff_ne, decide_eq_true_eq, decide_eq_false_iff_not, ne_eq] at h ha hb hc
  simp only [Int.reducePow] at h ha hb hc
  first | (clear h hc; omega) | (clear h; omega) | omega

theorem immTrue_23 (val : Nat → Int) (h : Holds val [.ne (.shr (.wrap .i64 (.wrap .u64 (.shl (.wrap .u64 (.a 0)) 48))) 48) 0, .le (.a 0) (-32769), .at (.eq (.a 0) (.wrap .i64 (.shr (.wrap .u64 (.shl (.wrap .u64 (.a 0)) 48)) 48))) true, .is (.a 1) 16, .ne (.a 1) 8, .ge (.a 0) (-9223372036854775808), .le (.a 0) 9223372036854775807]) : ImmQ true val := by
  exfalso
  have hb : Holds val (List.drop 5 _) := fun f hf => h f (List.mem_of_mem_drop hf)
  have ha : Holds val (List.take 1 _) := fun f hf => h f (List.mem_of_mem_take hf)
  have hc : Holds val (List.take 2 _) := fun f hf => h f (List.mem_of_mem_take hf)
  simp only [List.take_succ_cons, List.take_zero, List.drop_succ_cons, List.drop_zero, Holds, List.forall_mem_cons, List.not_mem_nil, false_implies, implies_true, and_true, Fact.holds, SB.eval, SX.eval, wrapU, wrapI, fdivP, tmodP, beq_iff_eq, beq_eq_false_iff_ne, decide_eq_true_eq, decide_eq_false_iff_not, ne_eq] at h ha hb hc
  simp only [Int.reducePow] at h ha hb hc
  first | (clear h hc; omega) | (clear h; omega) | omega

theorem immTrue_24 (val : Nat → Int) (h : Holds val [.is (.shr (.wrap .i64 (.wrap .u64 (.shl (.wrap .u64 (.a 0)) 48))) 48) 0, .ge (.a 0) 65536, .ge (.a 0) (-32768), .at (.eq (.a 0) (.wrap .i64 (.shr (.wrap .u64 (.shl (.wrap .u64 (.a 0)) 48)) 48))) true, .is (.a 1) 16, .ne (.a 1) 8, .ge (.a 0) (-9223372036854775808), .le (.a 0) 9223372036854775807]) : ImmQ true val := by
  exfalso
  have hb : Holds val (List.drop 6 _) := fun f hf => h f (List.mem_of_mem_drop hf)
  have ha : Holds val (List.take 1 _) := fun f hf => h f (List.mem_of_mem_take hf)
  have hc : Holds val (List.take 2 _) := fun f hf => h f (List.mem_of_mem_take hf)
  simp only [List.take_succ_cons, List.take_zero, List.drop_succ_cons, List.drop_zero, Holds, List.forall_mem_cons, List.not_mem_nil, false_implies, implies_true, and_true, Fact.holds, SB.eval, SX.eval, wrapU, wrapI, fdivP, tmodP, beq_iff_eq, beq_eq_false_iff_ne, decide_eq_true_eq, decide_eq_false_iff_not, ne_eq] at h ha hb hc
  simp only [Int.reducePow] at h ha hb hc
  first | (clear h hc; omega) | (clear h; omega) | omega

theorem immTrue_25 (val : Nat → Int) (h : Holds val [.ne (.shr (.wrap .i64 (.wrap .u64 (.shl (.wrap .u64 (.a 0)) 48))) 48) 0, .ge (.a 0) 65536, .ge (.a 0) (-32768), .at (.eq (.a 0) (.wrap .i64 (.shr (.wrap .u64 (.shl (.wrap .u64 (.a 0)) 48)) 48))) true, .is (.a 1) 16, .ne (.a 1) 8, .ge (.a 0) (-9223372036854775808), .le (.a 0) 9223372036854775807]) : ImmQ true val := by
  exfalso
  have hb : Holds val (List.drop 6 _) := fun f hf => h f (List.mem_of_mem_drop hf)
  have ha : Holds val (List.take 1 _) := fun f hf => h f (List.mem_of_mem_take hf)
  have hc : Holds val (List.take 2 _) := fun f hf => h f (List.mem_of_mem_take hf)
  simp only [List.take_succ_cons, List.take_zero, List.drop_succ_cons, List.drop_zero, Holds, List.forall_mem_cons, List.not_mem_nil, false_implies, implies_true, and_true, Fact.holds, SB.eval, SX.eval, wrapU, wrapI, fdivP, tmodP, beq_iff_eq, beq_eq_false_iff_ne, decide_eq_true_eq, decide_eq_false_iff_not, ne_eq] at h ha hb hc
  simp only [Int.reducePow] at h ha hb hc
  first | (clear h hc; omega) | (clear h; omega) | omega

theorem immTrue_26 (val : Nat → Int) (h : Holds val [.at (.eq (.shr (.wrap .i64 (.wrap .u64 (.shl (.wrap .u64 (.a 0)) 48))) 48) (.wrap .i64 (.sub (.a 0) (.c 65536)))) true, .ge (.a 0) 32768, .le (.a 0) 65535, .ge (.a 0) (-32768), .at (.eq (.a 0) (.wrap .i64 (.shr (.wrap .u64 (.shl (.wrap .u64 (.a 0)) 48)) 48))) true, .is (.a 1) 16, .ne (.a 1) 8, .ge (.a 0) (-9223372036854775808), .le (.a 0) 9223372036854775807]) : ImmQ true val :=
  leafI h (by kernel_rfl)

theorem immTrue_27 (val : Nat → Int) (h : Holds val [.at (.eq (.shr (.wrap .i64 (.wrap .u64 (.shl (.wrap .u64 (.a 0)) 48))) 48) (.wrap .i64 (.sub (.a 0) (.c 65536)))) false, .ge (.a 0) 32768, .le (.a 0) 65535, .ge (.a 0) (-32768), .at (.eq (.a 0) (.wrap .i64 (.shr (.wrap .u64 (.shl (.wrap .u64 (.a 0)) 48)) 48))) true, .is (.a 1) 16, .ne (.a 1) 8, .ge (.a 0) (-9223372036854775808), .le (.a 0) 9223372036854775807]) : ImmQ true val := by
  exfalso
  have hb : Holds val (List.drop 7 _) := fun f hf => h f (List.mem_of_mem_drop hf)
  have ha : Holds val (List.take 1 _) := fun f hf => h f (List.mem_of_mem_take hf)
  have hc : Holds val (List.take 2 _) := fun f hf => h f (List.mem_of_mem_take hf)
  simp only [List.take_succ_cons, List.take_zero, List.drop_succ_cons, List.drop_zero, Holds, List.forall_mem_cons, List.not_mem_nil, false_implies, implies_true, and_true, Fact.holds, SB.eval, SX.eval, wrapU, wrapI, fdivP, tmodP, beq_iff_eq, beq_eq_false_iff_ne, decide_eq_true_eq, decide_eq_false_iff_not, ne_eq] at h ha hb hc
  simp only [Int.reducePow] at h ha hb hc
  first | (clear h hc; omega) | (clear h; omega) | omega

theorem immTrue_28 (val : Nat → Int) (h : Holds val [.at (.eq (.shr (.wrap .i64 (.wrap .u64 (.shl (.wrap .u64 (.a 0)) 48))) 48) (.a 0)) true, .le (.a 0) 32767, .le (.a 0) 65535, .ge (.a 0) (-32768), .at (.eq (.a 0) (.wrap .i64 (.shr (.wrap .u64 (.shl (.wrap .u64 (.a 0)) 48)) 48))) true, .is (.a 1) 16, .ne (.a 1) 8, .ge (.a 0) (-9223372036854775808), .le (.a 0) 9223372036854775807]) : ImmQ true val :=
  leafI h (by kernel_rfl)

theorem immTrue_29 (val : Nat → Int) (h : Holds val [.at (.eq (.shr (.wrap .i64 (.wrap .u64 (.shl (.wrap .u64 (.a 0)) 48))) 48) (.a 0)) false, .le (.a 0) 32767, .le (.a 0) 65535, .ge (.a 0) (-32768), .at (.eq (.a 0) (.wrap .i64 (.shr (.wrap .u64 (.shl (.wrap .u64 (.a 0)) 48)) 48))) true, .is (.a 1) 16, .ne (.a 1) 8, .ge (.a 0) (-9223372036854775808), .le (.a 0) 9223372036854775807]) : ImmQ true val := by
  exfalso
  have hb : Holds val (List.drop 7 _) := fun f hf => h f (List.mem_of_mem_drop hf)
  have ha : Holds val (List.take 1 _) := fun f hf => h f (List.mem_of_mem_take hf)
  have hc : Holds val (List.take 2 _) := fun f hf => h f (List.mem_of_mem_take hf)
  simp only [List.take_succ_cons, List.take_zero, List.drop_succ_cons, List.drop_zero, Holds, List.forall_mem_cons, List.not_mem_nil, false_implies, implies_true, and_true, Fact.holds, SB.eval, SX.eval, wrapU, wrapI, fdivP, tmodP, beq_iff_eq, beq_eq_false_iff_ne, decide_eq_true_eq, decide_eq_false_iff_not, ne_eq] at h ha hb hc
  simp only [Int.reducePow] at h ha hb hc
  first | (clear h hc; omega) | (clear h; omega) | omega

theorem immTrue_30 (val : Nat → Int) (h : Holds val [.is (.shr (.wrap .i64 (.wrap .u64 (.shl (.wrap .u64 (.a 0)) 48))) 48) 0, .le (.a 0) (-32769), .at (.eq (.a 0) (.shr (.wrap .i64 (.wrap .u64 (.shl (.wrap .u64 (.a 0)) 48))) 48)) true, .at (.eq (.a 0) (.wrap .i64 (.shr (.wrap .u64 (.shl (.wrap .u64 (.a 0)) 48)) 48))) false, .is (.a 1) 16, .ne (.a 1) 8, .ge (.a 0) (-9223372036854775808), .le (.a 0) 9223372036854775807]) : ImmQ true val :=
  leafI h (by kernel_rfl)

theorem immTrue_31 (val : Nat → Int) (h : Holds val [.ne (.shr (.wrap .i64 (.wrap .u64 (.shl (.wrap .u64 (.a 0)) 48))) 48) 0, .le (.a 0) (-32769), .at (.eq (.a 0) (.shr (.wrap .i64 (.wrap .u64 (.shl (.wrap .u64 (.a 0)) 48))) 48)) true, .at (.eq (.a 0) (.wrap .i64 (.shr (.wrap .u64 (.shl (.wrap .u64 (.a 0)) 48)) 48))) false, .is (.a 1) 16, .ne (.a 1) 8, .ge (.a 0) (-9223372036854775808), .le (.a 0) 9223372036854775807]) : ImmQ true val := by
  exfalso
  have hb : Holds val (List.drop 6 _) := fun f hf => h f (List.mem_of_mem_drop hf)
  have ha : Holds val (List.take 1 _) := fun f hf => h f (List.mem_of_mem_take hf)
  have hc : Holds val (List.take 2 _) := fun f hf => h f (List.mem_of_mem_take hf)
  simp only [List.take_succ_cons, List.take_zero, List.drop_succ_cons, List.drop_zero, Holds, List.forall_mem_cons, List.not_mem_nil, false_implies, implies_true, and_true, Fact.holds, SB.eval, SX.eval, wrapU, wrapI, fdivP, tmodP, beq_iff_eq, beq_eq_false_iff_ne, decide_eq_true_eq, decide_eq_false_iff_not, ne_eq] at h ha hb hc
  simp only [Int.reducePow] at h ha hb hc
  first | (clear h hc; omega) | (clear h; omega) | omega

theorem immTrue_32 (val : Nat → Int) (h : Holds val [.is (.shr (.wrap .i64 (.wrap .u64 (.shl (.wrap .u64 (.a 0)) 48))) 48) 0, .ge (.a 0) 65536, .ge (.a 0) (-32768), .at (.eq (.a 0) (.shr (.wrap .i64 (.wrap .u64 (.shl (.wrap .u64 (.a 0)) 48))) 48)) true, .at (.eq (.a 0) (.wrap .i64 (.shr (.wrap .u64 (.shl (.wrap .u64 (.a 0)) 48)) 48))) false, .is (.a 1) 16, .ne (.a 1) 8, .ge (.a 0) (-9223372036854775808), .le (.a 0) 9223372036854775807]) : ImmQ true val :=
  leafI h (by kernel_rfl)

theorem immTrue_33 (val : Nat → Int) (h : Holds val [.ne (.shr (.wrap .i64 (.wrap .u64 (.shl (.wrap .u64 (.a 0)) 48))) 48) 0, .ge (.a 0) 65536, .ge (.a 0) (-32768), .at (.eq (.a 0) (.shr (.wrap .i64 (.wrap .u64 (.shl (.wrap .u64 (.a 0)) 48))) 48)) true, .at (.eq (.a 0) (.wrap .i64 (.shr (.wrap .u64 (.shl (.wrap .u64 (.a 0)) 48)) 48))) false, .is (.a 1) 16, .ne (.a 1) 8, .ge (.a 0) (-9223372036854775808), .le (.a 0) 9223372036854775807]) : ImmQ true val := by
  exfalso
  have hb : Holds val (List.drop 7 _) := fun f hf => h f (List.mem_of_mem_drop hf)
  have ha : Holds val (List.take 1 _) := fun f hf => h f (List.mem_of_mem_take hf)
  have hc : Holds val (List.take 2 _) := fun f hf => h f (List.mem_of_mem_take hf)
  simp only [List.take_succ_cons, List.take_zero, List.drop_succ_cons, List.drop_zero, Holds, List.forall_mem_cons, List.not_mem_nil, false_implies, implies_true, and_true, Fact.holds, SB.eval, SX.eval, wrapU, wrapI, fdivP, tmodP, beq_iff_eq, beq_eq_false_iff_ne, decide_eq_true_eq, decide_eq_false_iff_not, ne_eq] at h ha hb hc
  simp only [Int.reducePow] at h ha hb hc
  first | (clear h hc; omega) | (clear h; omega) | omega

theorem immTrue_34 (val : Nat → Int) (h : Holds val [.at (.eq (.shr (.wrap .i64 (.wrap .u64 (.shl (.wrap .u64 (.a 0)) 48))) 48) (.wrap .i64 (.sub (.a 0) (.c 65536)))) true, .ge (.a 0) 32768, .le (.a 0) 65535, .ge (.a 0) (-32768), .at (.eq (.a 0) (.shr (.wrap .i64 (.wrap .u64 (.shl (.wrap .u64 (.a 0)) 48))) 48)) true, .at (.eq (.a 0) (.wrap .i64 (.shr (.wrap .u64 (.shl (.wrap .u64 (.a 0)) 48)) 48))) false, .is (.a 1) 16, .ne (.a 1) 8, .ge (.a 0) (-9223372036854775808), .le (.a 0) 9223372036854775807]) : ImmQ true val :=
  leafI h (by kernel_rfl)

theorem immTrue_35 (val : Nat → Int) (h : Holds val [.at (.eq (.shr (.wrap .i64 (.wrap .u64 (.shl (.wrap .u64 (.a 0)) 48))) 48) (.wrap .i64 (.sub (.a 0) (.c 65536)))) false, .ge (.a 0) 32768, .le (.a 0) 65535, .ge (.a 0) (-32768), .at (.eq (.a 0) (.shr (.wrap .i64 (.wrap .u64 (.shl (.wrap .u64 (.a 0)) 48))) 48)) true, .at (.eq (.a 0) (.wrap .i64 (.shr (.wrap .u64 (.shl (.wrap .u64 (.a 0)) 48)) 48))) false, .is (.a 1) 16, .ne (.a 1) 8, .ge (.a 0) (-9223372036854775808), .le (.a 0) 9223372036854775807]) : ImmQ true val := by
  exfalso
  have hb : Holds val (List.drop 8 _) := fun f hf => h f (List.mem_of_mem_drop hf)
  have ha : Holds val (List.take 1 _) := fun f hf => h f (List.mem_of_mem_take hf)
  have hc : Holds val (List.take 2 _) := fun f hf => h f (List.mem_of_mem_take hf)
  simp only [List.take_succ_cons, List.take_zero, List.drop_succ_cons, List.drop_zero, Holds, List.forall_mem_cons, List.not_mem_nil, false_implies, implies_true, and_true, Fact.holds, SB.eval, SX.eval, wrapU, wrapI, fdivP, tmodP, beq_iff_eq, beq_eq_false_iff_ne, decide_eq_true_eq, decide_eq_false_iff_not, ne_eq] at h ha hb hc
  simp only [Int.reducePow] at h ha hb hc
  first | (clear h hc; omega) | (clear h; omega) | omega

theorem immTrue_36 (val : Nat → Int) (h : Holds val [.at (.eq (.shr (.wrap .i64 (.wrap .u64 (.shl (.wrap .u64 (.a 0)) 48))) 48) (.a 0)) true, .le (.a 0) 32767, .le (.a 0) 65535, .ge (.a 0) (-32768), .at (.eq (.a 0) (.shr (.wrap .i64 (.wrap .u64 (.shl (.wrap .u64 (.a 0)) 48))) 48)) true, .at (.eq (.a 0) (.wrap .i64 (.shr (.wrap .u64 (.shl (.wrap .u64 (.a 0)) 48)) 48))) false, .is (.a 1) 16, .ne (.a 1) 8, .ge (.a 0) (-9223372036854775808), .le (.a 0) 9223372036854775807]) : ImmQ true val :=
  leafI h (by kernel_rfl)

theorem immTrue_37 (val : Nat → Int) (h : Holds val [.at (.eq (.shr (.wrap .i64 (.wrap .u64 (.shl (.wrap .u64 (.a 0)) 48))) 48) (.a 0)) false, .le (.a 0) 32767, .le (.a 0) 65535, .ge (.a 0) (-32768), .at (.eq (.a 0) (.shr (.wrap .i64 (.wrap .u64 (.shl (.wrap .u64 (.a 0)) 48))) 48)) true, .at (.eq (.a 0) (.wrap .i64 (.shr (.wrap .u64 (.shl (.wrap .u64 (.a 0)) 48)) 48))) false, .is (.a 1) 16, .ne (.a 1) 8, .ge (.a 0) (-9223372036854775808), .le (.a 0) 9223372036854775807]) : ImmQ true val := by
  exfalso
  have hb : Holds val (List.drop 8 _) := fun f hf => h f (List.mem_of_mem_drop hf)
  have ha : Holds val (List.take 1 _) := fun f hf => h f (List.mem_of_mem_take hf)
  have hc : Holds val (List.take 2 _) := fun f hf => h f (List.mem_of_mem_take hf)
  simp only [List.take_succ_cons, List.take_zero, List.drop_succ_cons, List.drop_zero, Holds, List.forall_mem_cons, List.not_mem_nil, false_implies, implies_true, and_true, Fact.holds, SB.eval, SX.eval, wrapU, wrapI, fdivP, tmodP, beq_iff_eq, beq_eq_false_iff_ne, decide_eq_true_eq, decide_eq_false_iff_not, ne_eq] at h ha hb hc
  simp only [Int.reducePow] at h ha hb hc
  first | (clear h hc; omega) | (clear h; omega) | omega

theorem immTrue_38 (val : Nat → Int) (h : Holds val [.le (.a 0) (-32769), .at (.eq (.a 0) (.shr (.wrap .i64 (.wrap .u64 (.shl (.wrap .u64 (.a 0)) 48))) 48)) false, .at (.eq (.a 0) (.wrap .i64 (.shr (.wrap .u64 (.shl (.wrap .u64 (.a 0)) 48)) 48))) false, .is (.a 1) 16, .ne (.a 1) 8, .ge (.a 0) (-9223372036854775808), .le (.a 0) 9223372036854775807]) : ImmQ true val :=
  leafI h (by kernel_rfl)

theorem immTrue_39 (val : Nat → Int) (h : Holds val [.ge (.a 0) 65536, .ge (.a 0) (-32768), .at (.eq (.a 0) (.shr (.wrap .i64 (.wrap .u64 (.shl (.wrap .u64 (.a 0)) 48))) 48)) false, .at (.eq (.a 0) (.wrap .i64 (.shr (.wrap .u64 (.shl (.wrap .u64 (.a 0)) 48)) 48))) false, .is (.a 1) 16, .ne (.a 1) 8, .ge (.a 0) (-9223372036854775808), .le (.a 0) 9223372036854775807]) : ImmQ true val :=
  leafI h (by kernel_rfl)

theorem immTrue_40 (val : Nat → Int) (h : Holds val [.is (.wrap .i64 (.sub (.a 0) (.c 65536))) 0, .ge (.a 0) 32768, .le (.a 0) 65535, .ge (.a 0) (-32768), .at (.eq (.a 0) (.shr (.wrap .i64 (.wrap .u64 (.shl (.wrap .u64 (.a 0)) 48))) 48)) false, .at (.eq (.a 0) (.wrap .i64 (.shr (.wrap .u64 (.shl (.wrap .u64 (.a 0)) 48)) 48))) false, .is (.a 1) 16, .ne (.a 1) 8, .ge (.a 0) (-9223372036854775808), .le (.a 0) 9223372036854775807]) : ImmQ true val := by
  exfalso
  have hb : Holds val (List.drop 8 _) := fun f hf => h f (List.mem_of_mem_drop hf)
  have ha : Holds val (List.take 1 _) := fun f hf => h f (List.mem_of_mem_take hf)
  have hc : Holds val (List.take 2 _) := fun f hf => h f (List.mem_of_mem_take hf)
  simp only [List.take_succ_cons, List.take_zero, List.drop_succ_cons, List.drop_zero, Holds, List.forall_mem_cons, List.not_mem_nil, false_implies, implies_true, and_true, Fact.holds, SB.eval, SX.eval, wrapU, wrapI, fdivP, tmodP, beq_iff_eq, beq_eq_false_iff_ne, decide_eq_true_eq, decide_eq_false_iff_not, ne_eq] at h ha hb hc
  simp only [Int.reducePow] at h ha hb hc
  first | (clear h hc; omega) | (clear h; omega) | omega

theorem immTrue_41 (val : Nat → Int) (h : Holds val [.ne (.wrap .i64 (.sub (.a 0) (.c 65536))) 0, .ge (.a 0) 32768, .le (.a 0) 65535, .ge (.a 0) (-32768), .at (.eq (.a 0) (.shr (.wrap .i64 (.wrap .u64 (.shl (.wrap .u64 (.a 0)) 48))) 48)) false, .at (.eq (.a 0) (.wrap .i64 (.shr (.wrap .u64 (.shl (.wrap .u64 (.a 0)) 48)) 48))) false, .is (.a 1) 16, .ne (.a 1) 8, .ge (.a 0) (-9223372036854775808), .le (.a 0) 9223372036854775807]) : ImmQ true val := by
  exfalso
  have hb : Holds val (List.drop 8 _) := fun f hf => h f (List.mem_of_mem_drop hf)
  have ha : Holds val (List.take 1 _) := fun f hf => h f (List.mem_of_mem_take hf)
  have hc : Holds val (List.take 2 _) := fun f hf => h f (List.mem_of_mem_take hf)
  simp only [List.take_succ_cons, List.take_zero, List.drop_succ_cons, List.drop_zero, Holds, List.forall_mem_cons, List.not_mem_nil, false_implies, implies_true, and_true, Fact.holds, SB.eval, SX.eval, wrapU, wrapI, fdivP, tmodP, beq_iff_eq, beq_eq_false_iff_ne, decide_eq_true_eq, decide_eq_false_iff_not, ne_eq] at h ha hb hc
  simp only [Int.reducePow] at h ha hb hc
  first | (clear h hc; omega) | (clear h; omega) | omega

theorem immTrue_42 (val : Nat → Int) (h : Holds val [.is (.a 0) 0, .le (.a 0) 32767, .le (.a 0) 65535, .ge (.a 0) (-32768), .at (.eq (.a 0) (.shr (.wrap .i64 (.wrap .u64 (.shl (.wrap .u64 (.a 0)) 48))) 48)) false, .at (.eq (.a 0) (.wrap .i64 (.shr (.wrap .u64 (.shl (.wrap .u64 (.a 0)) 48)) 48))) false, .is (.a 1) 16, .ne (.a 1) 8, .ge (.a 0) (-9223372036854775808), .le (.a 0) 9223372036854775807]) : ImmQ true val :=
  leafI h (by kernel_rfl)

theorem immTrue_43 (val : Nat → Int) (h : Holds val [.ne (.a 0) 0, .le (.a 0) 32767, .le (.a 0) 65535, .ge (.a 0) (-32768), .at (.eq (.a 0) (.shr (.wrap .i64 (.wrap .u64 (.shl (.wrap .u64 (.a 0)) 48))) 48)) false, .at (.eq (.a 0) (.wrap .i64 (.shr (.wrap .u64 (.shl (.wrap .u64 (.a 0)) 48)) 48))) false, .is (.a 1) 16, .ne (.a 1) 8, .ge (.a 0) (-9223372036854775808), .le (.a 0) 9223372036854775807]) : ImmQ true val := by
  exfalso
  have hb : Holds val (List.drop 8 _) := fun f hf => h f (List.mem_of_mem_drop hf)
  have ha : Holds val (List.take 1 _) := fun f hf => h f (List.mem_of_mem_take hf)
  have hc : Holds val (List.take 2 _) := fun f hf => h f (List.mem_of_mem_take hf)
  simp only [List.take_succ_cons, List.take_zero, List.drop_succ_cons, List.drop_zero, Holds, List.forall_mem_cons, List.not_mem_nil, false_implies, implies_true, and_true, Fact.holds, SB.eval, SX.eval, wrapU, wrapI, fdivP, tmodP, beq_iff_eq, beq_eq_false_iff_ne, decide_eq_true_eq, decide_eq_false_iff_not, ne_eq] at h ha hb hc
  simp only [Int.reducePow] at h ha hb hc
  first | (clear h hc; omega) | (clear h; omega) | omega

theorem immTrue_44 (val : Nat → Int) (h : Holds val [.is (.shr (.wrap .i64 (.wrap .u64 (.shl (.wrap .u64 (.a 0)) 32))) 32) 0, .le (.a 0) (-2147483649), .at (.eq (.a 0) (.wrap .i64 (.shr (.wrap .u64 (.shl (.wrap .u64 (.a 0)) 32)) 32))) true, .is (.a 1) 32, .ne (.a 1) 16, .ne (.a 1) 8, .ge (.a 0) (-9223372036854775808), .le (.a 0) 9223372036854775807]) : ImmQ true val := by
  exfalso
  have hb : Holds val (List.drop 6 _) := fun f hf => h f (List.mem_of_mem_drop hf)
  have ha : Holds val (List.take 1 _) := fun f hf => h f (List.mem_of_mem_take hf)
  have hc : Holds val (List.take 2 _) := fun f hf => h f (List.mem_of_mem_take hf)
  simp only [List.take_succ_cons, List.take_zero, List.drop_succ_cons, List.drop_zero, Holds, List.forall_mem_cons, List.not_mem_nil, false_implies, implies_true, and_true, Fact.holds, SB.eval, SX.eval, wrapU, wrapI, fdivP, tmodP, beq_iff_eq, beq_eq_false_iff_ne, decide_eq_true_eq, decide_eq_false_iff_not, ne_eq] at h ha hb hc
  simp only [Int.reducePow] at h ha hb hc
  first | (clear h hc; omega) | (clear h; omega) | omega

theorem immTrue_45 (val : Nat → Int) (h : Holds val [.ne (.shr (.wrap .i64 (.wrap .u64 (.shl (.wrap .u64 (.a 0)) 32))) 32) 0, .le (.a 0) (-2147483649), .at (.eq (.a 0) (.wrap .i64 (.shr (.wrap .u64 (.shl (.wrap .u64 (.a 0)) 32)) 32))) true, .is (.a 1) 32, .ne (.a 1) 16, .ne (.a 1) 8, .ge (.a 0) (-9223372036854775808), .le (.a 0) 9223372036854775807]) : ImmQ true val := by
  exfalso
  have hb : Holds val (List.drop 6 _) := fun f hf => h f (List.mem_of_mem_drop hf)
  have ha : Holds val (List.take 1 _) := fun f hf => h f (List.mem_of_mem_take hf)
  have hc : Holds val (List.take 2 _) := fun f hf => h f (List.mem_of_mem_take hf)
  simp only [List.take_succ_cons, List.take_zero, List.drop_succ_cons, List.drop_zero, Holds, List.forall_mem_cons, List.not_mem_nil, false_implies, implies_true, and_true, Fact.holds, SB.eval, SX.eval, wrapU, wrapI, fdivP, tmodP, beq_iff_eq, beq_eq_false_iff_ne, decide_eq_true_eq, decide_eq_false_iff_not, ne_eq] at h ha hb hc
  simp only [Int.reducePow] at h ha hb hc
  first | (clear h hc; omega) | (clear h; omega) | omega

theorem immTrue_46 (val : Nat → Int) (h : Holds val [.is (.shr (.wrap .i64 (.wrap .u64 (.shl (.wrap .u64 (.a 0)) 32))) 32) 0, .ge (.a 0) 4294967296, .ge (.a 0) (-2147483648), .at (.eq (.a 0) (.wrap .i64 (.shr (.wrap .u64 (.shl (.wrap .u64 (.a 0)) 32)) 32))) true, .is (.a 1) 32, .ne (.a 1) 16, .ne (.a 1) 8, .ge (.a 0) (-9223372036854775808), .le (.a 0) 9223372036854775807]) : ImmQ true val := by
  exfalso
  have hb : Holds val (List.drop 7 _) := fun f hf => h f (List.mem_of_mem_drop hf)
  have ha : Holds val (List.take 1 _) := fun f hf => h f (List.mem_of_mem_take hf)
  have hc : Holds val (List.take 2 _) := fun f hf => h f (List.mem_of_mem_take hf)
  simp only [List.take_succ_cons, List.take_zero, List.drop_succ_cons, List.drop_zero, Holds, List.forall_mem_cons, List.not_mem_nil, false_implies, implies_true, and_true, Fact.holds, SB.eval, SX.eval, wrapU, wrapI, fdivP, tmodP, beq_iff_eq, beq_eq_false_iff_ne, decide_eq_true_eq, decide_eq_false_iff_not, ne_eq] at h ha hb hc
  simp only [Int.reducePow] at h ha hb hc
  first | (clear h hc; omega) | (clear h; omega) | omega

theorem immTrue_47 (val : Nat → Int) (h : Holds val [.ne (.shr (.wrap .i64 (.wrap .u64 (.shl (.wrap .u64 (.a 0)) 32))) 32) 0, .ge (.a 0) 4294967296, .ge (.a 0) (-2147483648), .at (.eq (.a 0) (.wrap .i64 (.shr (.wrap .u64 (.shl (.wrap .u64 (.a 0)) 32)) 32))) true, .is (.a 1) 32, .ne (.a 1) 16, .ne (.a 1) 8, .ge (.a 0) (-9223372036854775808), .le (.a 0) 9223372036854775807]) : ImmQ true val := by
  exfalso
  have hb : Holds val (List.drop 7 _) := fun f hf => h f (List.mem_of_mem_drop hf)
  have ha : Holds val (List.take 1 _) := fun f hf => h f (List.mem_of_mem_take hf)
  have hc : Holds val (List.take 2 _) := fun f hf => h f (List.mem_of_mem_take hf)
  simp only [List.take_succ_cons, List.take_zero, List.drop_succ_cons, List.drop_zero, Holds, List.forall_mem_cons, List.not_mem_nil, false_implies, implies_true, and_true, Fact.holds, SB.eval, SX.eval, wrapU, wrapI, fdivP, tmodP, beq_iff_eq, beq_eq_false_iff_ne, decide_eq_true_eq, decide_eq_false_iff_not, ne_eq] at h ha hb hc
  simp only [Int.reducePow] at h ha hb hc
  first | (clear h hc; omega) | (clear h; omega) | omega

theorem immTrue_48 (val : Nat → Int) (h : Holds val [.at (.eq (.shr (.wrap .i64 (.wrap .u64 (.shl (.wrap .u64 (.a 0)) 32))) 32) (.wrap .i64 (.sub (.a 0) (.c 4294967296)))) true, .ge (.a 0) 2147483648, .le (.a 0) 4294967295, .ge (.a 0) (-2147483648), .at (.eq (.a 0) (.wrap .i64 (.shr (.wrap .u64 (.shl (.wrap .u64 (.a 0)) 32)) 32))) true, .is (.a 1) 32, .ne (.a 1) 16, .ne (.a 1) 8, .ge (.a 0) (-9223372036854775808), .le (.a 0) 9223372036854775807]) : ImmQ true val :=
  leafI h (by kernel_rfl)

theorem immTrue_49 (val : Nat → Int) (h : Holds val [.at (.eq (.shr (.wrap .i64 (.wrap .u64 (.shl (.wrap .u64 (.a 0)) 32))) 32) (.wrap .i64 (.sub (.a 0) (.c 4294967296)))) false, .ge (.a 0) 2147483648, .le (.a 0) 4294967295, .ge (.a 0) (-2147483648), .at (.eq (.a 0) (.wrap .i64 (.shr (.wrap .u64 (.shl (.wrap .u64 (.a 0)) 32)) 32))) true, .is (.a 1) 32, .ne (.a 1) 16, .ne (.a 1) 8, .ge (.a 0) (-9223372036854775808), .le (.a 0) 9223372036854775807]) : ImmQ true val := by
  exfalso
  have hb : Holds val (List.drop 8 _) := fun f hf => h f (List.mem_of_mem_drop hf)
  have ha : Holds val (List.take 1 _) := fun f hf => h f (List.mem_of_mem_take hf)
  have hc : Holds val (List.take 2 _) := fun f hf => h f (List.mem_of_mem_take hf)
  simp only [List.take_succ_cons, List.take_zero, List.drop_succ_cons, List.drop_zero, Holds, List.forall_mem_cons, List.not_mem_nil, false_implies, implies_true, and_true, Fact.holds, SB.eval, SX.eval, wrapU, wrapI, fdivP, tmodP, beq_iff_eq, beq_eq_false_iff_ne, decide_eq_true_eq, decide_eq_false_iff_not, ne_eq] at h ha hb hc
  simp only [Int.reducePow] at h ha hb hc
  first | (clear h hc; omega) | (clear h; omega) | omega

theorem immTrue_50 (val : Nat → Int) (h : Holds val [.at (.eq (.shr (.wrap .i64 (.wrap .u64 (.shl (.wrap .u64 (.a 0)) 32))) 32) (.a 0)) true, .le (.a 0) 2147483647, .le (.a 0) 4294967295, .ge (.a 0) (-2147483648), .at (.eq (.a 0) (.wrap .i64 (.shr (.wrap .u64 (.shl (.wrap .u64 (.a 0)) 32)) 32))) true, .is (.a 1) 32, .ne (.a 1) 16, .ne (.a 1) 8, .ge (.a 0) (-9223372036854775808), .le (.a 0) 9223372036854775807]) : ImmQ true val :=
  leafI h (by kernel_rfl)

theorem immTrue_51 (val : Nat → Int) (h : Holds val [.at (.eq (.shr (.wrap .i64 (.wrap .u64 (.shl (.wrap .u64 (.a 0)) 32))) 32) (.a 0)) false, .le (.a 0) 2147483647, .le (.a 0) 4294967295, .ge (.a 0) (-2147483648), .at (.eq (.a 0) (.wrap .i64 (.shr (.wrap .u64 (.shl (.wrap .u64 (.a 0)) 32)) 32))) true, .is (.a 1) 32, .ne (.a 1) 16, .ne (.a 1) 8, .ge (.a 0) (-9223372036854775808), .le (.a 0) 9223372036854775807]) : ImmQ true val := by
  exfalso
  have hb : Holds val (List.drop 8 _) := fun f hf => h f (List.mem_of_mem_drop hf)
  have ha : Holds val (List.take 1 _) := fun f hf => h f (List.mem_of_mem_take hf)
  have hc : Holds val (List.take 2 _) := fun f hf => h f (List.mem_of_mem_take hf)
  simp only [List.take_succ_cons, List.take_zero, List.drop_succ_cons, List.drop_zero, Holds, List.forall_mem_cons, List.not_mem_nil, false_implies, implies_true, and_true, Fact.holds, SB.eval, SX.eval, wrapU, wrapI, fdivP, tmodP, beq_iff_eq, beq_eq_false_iff_ne, decide_eq_true_eq, decide_eq_false_iff_not, ne_eq] at h ha hb hc
  simp only [Int.reducePow] at h ha hb hc
  first | (clear h hc; omega) | (clear h; omega) | omega

theorem immTrue_52 (val : Nat → Int) (h : Holds val [.is (.shr (.wrap .i64 (.wrap .u64 (.shl (.wrap .u64 (.a 0)) 32))) 32) 0, .le (.a 0) (-2147483649), .at (.eq (.a 0) (.shr (.wrap .i64 (.wrap .u64 (.shl (.wrap .u64 (.a 0)) 32))) 32)) true, .at (.eq (.a 0) (.wrap .i64 (.shr (.wrap .u64 (.shl (.wrap .u64 (.a 0)) 32)) 32))) false, .is (.a 1) 32, .ne (.a 1) 16, .ne (.a 1) 8, .ge (.a 0) (-9223372036854775808), .le (.a 0) 9223372036854775807]) : ImmQ true val :=
  leafI h (by kernel_rfl)

theorem immTrue_53 (val : Nat → Int) (h : Holds val [.ne (.shr (.wrap .i64 (.wrap .u64 (.shl (.wrap .u64 (.a 0)) 32))) 32) 0, .le (.a 0) (-2147483649), .at (.eq (.a 0) (.shr (.wrap .i64 (.wrap .u64 (.shl (.wrap .u64 (.a 0)) 32))) 32)) true, .at (.eq (.a 0) (.wrap .i64 (.shr (.wrap .u64 (.shl (.wrap .u64 (.a 0)) 32)) 32))) false, .is (.a 1) 32, .ne (.a 1) 16, .ne (.a 1) 8, .ge (.a 0) (-9223372036854775808), .le (.a 0) 9223372036854775807]) : ImmQ true val := by
  exfalso
  have hb : Holds val (List.drop 7 _) := fun f hf => h f (List.mem_of_mem_drop hf)
  have ha : Holds val (List.take 1 _) := fun f hf => h f (List.mem_of_mem_take hf)
  have hc : Holds val (List.take 2 _) := fun f hf => h f (List.mem_of_mem_take hf)
  simp only [List.take_succ_cons, List.take_zero, List.drop_succ_cons, List.drop_zero, Holds, List.forall_mem_cons, List.not_mem_nil, false_implies, implies_true, and_true, Fact.holds, SB.eval, SX.eval, wrapU, wrapI, fdivP, tmodP, beq_iff_eq, beq_eq_false_iff_ne, decide_eq_true_eq, decide_eq_false_iff_not, ne_eq] at h ha hb hc
  simp only [Int.reducePow] at h ha hb hc
  first | (clear h hc; omega) | (clear h; omega) | omega

theorem immTrue_54 (val : Nat → Int) (h : Holds val [.is (.shr (.wrap .i64 (.wrap .u64 (.shl (.wrap .u64 (.a 0)) 32))) 32) 0, .ge (.a 0) 4294967296, .ge (.a 0) (-2147483648), .at (.eq (.a 0) (.shr (.wrap .i64 (.wrap .u64 (.shl (.wrap .u64 (.a 0)) 32))) 32)) true, .at (.eq (.a 0) (.wrap .i64 (.shr (.wrap .u64 (.shl (.wrap .u64 (.a 0)) 32)) 32))) false, .is (.a 1) 32, .ne (.a 1) 16, .ne (.a 1) 8, .ge (.a 0) (-9223372036854775808), .le (.a 0) 9223372036854775807]) : ImmQ true val :=
  leafI h (by kernel_rfl)

theorem immTrue_55 (val : Nat → Int) (h : Holds val [.ne (.shr (.wrap .i64 (.wrap .u64 (.shl (.wrap .u64 (.a 0)) 32))) 32) 0, .ge (.a 0) 4294967296, .ge (.a 0) (-2147483648), .at (.eq (.a 0) (.shr (.wrap .i64 (.wrap .u64 (.shl (.wrap .u64 (.a 0)) 32))) 32)) true, .at (.eq (.a 0) (.wrap .i64 (.shr (.wrap .u64 (.shl (.wrap .u64 (.a 0)) 32)) 32))) false, .is (.a 1) 32, .ne (.a 1) 16, .ne (.a 1) 8, .ge (.a 0) (-9223372036854775808), .le (.a 0) 9223372036854775807]) : ImmQ true val := by
  exfalso
  have hb : Holds val (List.drop 8 _) := fun f hf => h f (List.mem_of_mem_drop hf)
  have ha : Holds val (List.take 1 _) := fun f hf => h f (List.mem_of_mem_take hf)
  have hc : Holds val (List.take 2 _) := fun f hf => h f (List.mem_of_mem_take hf)
  simp only [List.take_succ_cons, List.take_zero, List.drop_succ_cons, List.drop_zero, Holds, List.forall_mem_cons, List.not_mem_nil, false_implies, implies_true, and_true, Fact.holds, SB.eval, SX.eval, wrapU, wrapI, fdivP, tmodP, beq_iff_eq, beq_eq_false_iff_ne, decide_eq_true_eq, decide_eq_false_iff_not, ne_eq] at h ha hb hc
  simp only [Int.reducePow] at h ha hb hc
  first | (clear h hc; omega) | (clear h; omega) | omega

theorem immTrue_56 (val : Nat → Int) (h : Holds val [.at (.eq (.shr (.wrap .i64 (.wrap .u64 (.shl (.wrap .u64 (.a 0)) 32))) 32) (.wrap .i64 (.sub (.a 0) (.c 4294967296)))) true, .ge (.a 0) 2147483648, .le (.a 0) 4294967295, .ge (.a 0) (-2147483648), .at (.eq (.a 0) (.shr (.wrap .i64 (.wrap .u64 (.shl (.wrap .u64 (.a 0)) 32))) 32)) true, .at (.eq (.a 0) (.wrap .i64 (.shr (.wrap .u64 (.shl (.wrap .u64 (.a 0)) 32)) 32))) false, .is (.a 1) 32, .ne (.a 1) 16, .ne (.a 1) 8, .ge (.a 0) (-9223372036854775808), .le (.a 0) 9223372036854775807]) : ImmQ true val :=
  leafI h (by kernel_rfl)

theorem immTrue_57 (val : Nat → Int) (h : Holds val [.at (.eq (.shr (.wrap .i64 (.wrap .u64 (.shl (.wrap .u64 (.a 0)) 32))) 32) (.wrap .i64 (.sub (.a 0) (.c 4294967296)))) false, .ge (.a 0) 2147483648, .le (.a 0) 4294967295, .ge (.a 0) (-2147483648), .at (.eq (.a 0) (.shr (.wrap .i64 (.wrap .u64 (.shl (.wrap .u64 (.a 0)) 32))) 32)) true, .at (.eq (.a 0) (.wrap .i64 (.shr (.wrap .u64 (.shl (.wrap .u64 (.a 0)) 32)) 32))) false, .is (.a 1) 32, .ne (.a 1) 16, .ne (.a 1) 8, .ge (.a 0) (-9223372036854775808), .le (.a 0) 9223372036854775807]) : ImmQ true val := by
  exfalso
  have hb : Holds val (List.drop 9 _) := fun f hf => h f (List.mem_of_mem_drop hf)
  have ha : Holds val (List.take 1 _) := fun f hf => h f (List.mem_of_mem_take hf)
  have hc : Holds val (List.take 2 _) := fun f hf => h f (List.mem_of_mem_take hf)
  simp only [List.take_succ_cons, List.take_zero, List.drop_succ_cons, List.drop_zero, Holds, List.forall_mem_cons, List.not_mem_nil, false_implies, implies_true, and_true, Fact.holds, SB.eval, SX.eval, wrapU, wrapI, fdivP, tmodP, beq_iff_eq, beq_eq_false_iff_ne, decide_eq_true_eq, decide_eq_false_iff_not, ne_eq] at h ha hb hc
  simp only [Int.reducePow] at h ha hb hc
  first | (clear h hc; omega) | (clear h; omega) | omega

theorem immTrue_58 (val : Nat → Int) (h : Holds val [.at (.eq (.shr (.wrap .i64 (.wrap .u64 (.shl (.wrap .u64 (.a 0)) 32))) 32) (.a 0)) true, .le (.a 0) 2147483647, .le (.a 0) 4294967295, .ge (.a 0) (-2147483648), .at (.eq (.a 0) (.shr (.wrap .i64 (.wrap .u64 (.shl (.wrap .u64 (.a 0)) 32))) 32)) true, .at (.eq (.a 0) (.wrap .i64 (.shr (.wrap .u64 (.shl (.wrap .u64 (.a 0)) 32)) 32))) false, .is (.a 1) 32, .ne (.a 1) 16, .ne (.a 1) 8, .ge (.a 0) (-9223372036854775808), .le (.a 0) 9223372036854775807]) : ImmQ true val :=
  leafI h (by kernel_rfl)

theorem immTrue_59 (val : Nat → Int) (h : Holds val [.at (.eq (.shr (.wrap .i64 (.wrap .u64 (.shl (.wrap .u64 (.a 0)) 32))) 32) (.a 0)) false, .le (.a 0) 2147483647, .le (.a 0) 4294967295, .ge (.a 0) (-2147483648), .at (.eq (.a 0) (.shr (.wrap .i64 (.wrap .u64 (.shl (.wrap .u64 (.a 0)) 32))) 32)) true, .at (.eq (.a 0) (.wrap .i64 (.shr (.wrap .u64 (.shl (.wrap .u64 (.a 0)) 32)) 32))) false, .is (.a 1) 32, .ne (.a 1) 16, .ne (.a 1) 8, .ge (.a 0) (-9223372036854775808), .le (.a 0) 9223372036854775807]) : ImmQ true val := by
  exfalso
  have hb : Holds val (List.drop 9 _) := fun f hf => h f (List.mem_of_mem_drop hf)
  have ha : Holds val (List.take 1 _) := fun f hf => h f (List.mem_of_mem_take hf)
  have hc : Holds val (List.take 2 _) := fun f hf => h f (List.mem_of_mem_take hf)
  simp only [List.take_succ_cons, List.take_zero, List.drop_succ_cons, List.drop_zero, Holds, List.forall_mem_cons, List.not_mem_nil, false_implies, implies_true, and_true, Fact.holds, SB.eval, SX.eval, wrapU, wrapI, fdivP, tmodP, beq_iff_eq, beq_eq_false_iff_ne, decide_eq_true_eq, decide_eq_false_iff_not, ne_eq] at h ha hb hc
  simp only [Int.reducePow] at h ha hb hc
  first | (clear h hc; omega) | (clear h; omega) | omega

theorem immTrue_60 (val : Nat → Int) (h : Holds val [.le (.a 0) (-2147483649), .at (.eq (.a 0) (.shr (.wrap .i64 (.wrap .u64 (.shl (.wrap .u64 (.a 0)) 32))) 32)) false, .at (.eq (.a 0) (.wrap .i64 (.shr (.wrap .u64 (.shl (.wrap .u64 (.a 0)) 32)) 32))) false, .is (.a 1) 32, .ne (.a 1) 16, .ne (.a 1) 8, .ge (.a 0) (-9223372036854775808), .le (.a 0) 9223372036854775807]) : ImmQ true val :=
  leafI h (by kernel_rfl)

theorem immTrue_61 (val : Nat → Int) (h : Holds val [.ge (.a 0) 4294967296, .ge (.a 0) (-2147483648), .at (.eq (.a 0) (.shr (.wrap .i64 (.wrap .u64 (.shl (.wrap .u64 (.a 0)) 32))) 32)) false, .at (.eq (.a 0) (.wrap .i64 (.shr (.wrap .u64 (.shl (.wrap .u64 (.a 0)) 32)) 32))) false, .is (.a 1) 32, .ne (.a 1) 16, .ne (.a 1) 8, .ge (.a 0) (-9223372036854775808), .le (.a 0) 9223372036854775807]) : ImmQ true val :=
  leafI h (by kernel_rfl)

theorem immTrue_62 (val : Nat → Int) (h : Holds val [.is (.wrap .i64 (.sub (.a 0) (.c 4294967296))) 0, .ge (.a 0) 2147483648, .le (.a 0) 4294967295, .ge (.a 0) (-2147483648), .at (.eq (.a 0) (.shr (.wrap .i64 (.wrap .u64 (.shl (.wrap .u64 (.a 0)) 32))) 32)) false, .at (.eq (.a 0) (.wrap .i64 (.shr (.wrap .u64 (.shl (.wrap .u64 (.a 0)) 32)) 32))) false, .is (.a 1) 32, .ne (.a 1) 16, .ne (.a 1) 8, .ge (.a 0) (-9223372036854775808), .le (.a 0) 9223372036854775807]) : ImmQ true val := by
  exfalso
  have hb : Holds val (List.drop 9 _) := fun f hf => h f (List.mem_of_mem_drop hf)
  have ha : Holds val (List.take 1 _) := fun f hf => h f (List.mem_of_mem_take hf)
  have hc : Holds val (List.take 2 _) := fun f hf => h f (List.mem_of_mem_take hf)
  simp only [List.take_succ_cons, List.take_zero, List.drop_succ_cons, List.drop_zero, Holds, List.forall_mem_cons, List.not_mem_nil, false_implies, implies_true, and_true, Fact.holds, SB.eval, SX.eval, wrapU, wrapI, fdivP, tmodP, beq_iff_eq, beq_eq_false_iff_ne, decide_eq_true_eq, decide_eq_false_iff_not, ne_eq] at h ha hb hc
  simp only [Int.reducePow] at h ha hb hc
  first | (clear h hc; omega) | (clear h; omega) | omega

theorem immTrue_63 (val : Nat → Int) (h : Holds val [.ne (.wrap .i64 (.sub (.a 0) (.c 4294967296))) 0, .ge (.a 0) 2147483648, .le (.a 0) 4294967295, .ge (.a 0) (-2147483648), .at (.eq (.a 0) (.shr (.wrap .i64 (.wrap .u64 (.shl (.wrap .u64 (.a 0)) 32))) 32)) false, .at (.eq (.a 0) (.wrap .i64 (.shr (.wrap .u64 (.shl (.wrap .u64 (.a 0)) 32)) 32))) false, .is (.a 1) 32, .ne (.a 1) 16, .ne (.a 1) 8, .ge (.a 0) (-9223372036854775808), .le (.a 0) 9223372036854775807]) : ImmQ true val := by
  exfalso
  have hb : Holds val (List.drop 9 _) := fun f hf => h f (List.mem_of_mem_drop hf)
  have ha : Holds val (List.take 1 _) := fun f hf => h f (List.mem_of_mem_take hf)
  have hc : Holds val (List.take 2 _) := fun f hf => h f (List.mem_of_mem_take hf)
  simp only [List.take_succ_cons, List.take_zero, List.drop_succ_cons, List.drop_zero, Holds, List.forall_mem_cons, List.not_mem_nil, false_implies, implies_true, and_true, Fact.holds, SB.eval, SX.eval, wrapU, wrapI, fdivP, tmodP, beq_iff_eq, beq_eq_false_iff_ne, decide_eq_true_eq, decide_eq_false_iff_not, ne_eq] at h ha hb hc
  simp only [Int.reducePow] at h ha hb hc
  first | (clear h hc; omega) | (clear h; omega) | omega

theorem immTrue_64 (val : Nat → Int) (h : Holds val [.is (.a 0) 0, .le (.a 0) 2147483647, .le (.a 0) 4294967295, .ge (.a 0) (-2147483648), .at (.eq (.a 0) (.shr (.wrap .i64 (.wrap .u64 (.shl (.wrap .u64 (.a 0)) 32))) 32)) false, .at (.eq (.a 0) (.wrap .i64 (.shr (.wrap .u64 (.shl (.wrap .u64 (.a 0)) 32)) 32))) false, .is (.a 1) 32, .ne (.a 1) 16, .ne (.a 1) 8, .ge (.a 0) (-9223372036854775808), .le (.a 0) 9223372036854775807]) : ImmQ true val :=
  leafI h (by kernel_rfl)

theorem immTrue_65 (val : Nat → Int) (h : Holds val [.ne (.a 0) 0, .le (.a 0) 2147483647, .le (.a 0) 4294967295, .ge (.a 0) (-2147483648), .at (.eq (.a 0) (.shr (.wrap .i64 (.wrap .u64 (.shl (.wrap .u64 (.a 0)) 32))) 32)) false, .at (.eq (.a 0) (.wrap .i64 (.shr (.wrap .u64 (.shl (.wrap .u64 (.a 0)) 32)) 32))) false, .is (.a 1) 32, .ne (.a 1) 16, .ne (.a 1) 8, .ge (.a 0) (-9223372036854775808), .le (.a 0) 9223372036854775807]) : ImmQ true val := by
  exfalso
  have hb : Holds val (List.drop 9 _) := fun f hf => h f (List.mem_of_mem_drop hf)
  have ha : Holds val (List.take 1 _) := fun f hf => h f (List.mem_of_mem_take hf)
  have hc : Holds val (List.take 2 _) := fun f hf => h f (List.mem_of_mem_take hf)
  simp only [List.take_succ_cons, List.take_zero, List.drop_succ_cons, List.drop_zero, Holds, List.forall_mem_cons, List.not_mem_nil, false_implies, implies_true, and_true, Fact.holds, SB.eval, SX.eval, wrapU, wrapI, fdivP, tmodP, beq_iff_eq, beq_eq_false_iff_ne, decide_eq_true_eq, decide_eq_false_iff_not, ne_eq] at h ha hb hc
  simp only [Int.reducePow] at h ha hb hc
  first | (clear h hc; omega) | (clear h; omega) | omega

theorem immTrue_66 (val : Nat → Int) (h : Holds val [.at (.eq (.shr (.wrap .i64 (.wrap .u64 (.shl (.wrap .u64 (.a 0)) 0))) 0) (.a 0)) true, .at (.eq (.a 0) (.wrap .i64 (.shr (.wrap .u64 (.shl (.wrap .u64 (.a 0)) 0)) 0))) true, .is (.a 1) 64, .ne (.a 1) 32, .ne (.a 1) 16, .ne (.a 1) 8, .ge (.a 0) (-9223372036854775808), .le (.a 0) 9223372036854775807]) : ImmQ true val :=
  leafI h (by kernel_rfl)

theorem immTrue_67 (val : Nat → Int) (h : Holds val [.at (.eq (.shr (.wrap .i64 (.wrap .u64 (.shl (.wrap .u64 (.a 0)) 0))) 0) (.a 0)) false, .at (.eq (.a 0) (.wrap .i64 (.shr (.wrap .u64 (.shl (.wrap .u64 (.a 0)) 0)) 0))) true, .is (.a 1) 64, .ne (.a 1) 32, .ne (.a 1) 16, .ne (.a 1) 8, .ge (.a 0) (-9223372036854775808), .le (.a 0) 9223372036854775807]) : ImmQ true val := by
  exfalso
  have hb : Holds val (List.drop 6 _) := fun f hf => h f (List.mem_of_mem_drop hf)
  have ha : Holds val (List.take 1 _) := fun f hf => h f (List.mem_of_mem_take hf)
  have hc : Holds val (List.take 2 _) := fun f hf => h f (List.mem_of_mem_take hf)
  simp only [List.take_succ_cons, List.take_zero, List.drop_succ_cons, List.drop_zero, Holds, List.forall_mem_cons, List.not_mem_nil, false_implies, implies_true, and_true, Fact.holds, SB.eval, SX.eval, wrapU, wrapI, fdivP, tmodP, beq_iff_eq, beq_eq_false_iff_ne, decide_eq_true_eq, decide_eq_false_iff_not, ne_eq] at h ha hb hc
  simp only [Int.reducePow] at h ha hb hc
  first | (clear h hc; omega) | (clear h; omega) | omega

theorem immTrue_68 (val : Nat → Int) (h : Holds val [.at (.eq (.shr (.wrap .i64 (.wrap .u64 (.shl (.wrap .u64 (.a 0)) 0))) 0) (.a 0)) true, .at (.eq (.a 0) (.shr (.wrap .i64 (.wrap .u64 (.shl (.wrap .u64 (.a 0)) 0))) 0)) true, .at (.eq (.a 0) (.wrap .i64 (.shr (.wrap .u64 (.shl (.wrap .u64 (.a 0)) 0)) 0))) false, .is (.a 1) 64, .ne (.a 1) 32, .ne (.a 1) 16, .ne (.a 1) 8, .ge (.a 0) (-9223372036854775808), .le (.a 0) 9223372036854775807]) : ImmQ true val :=
  leafI h (by kernel_rfl)

theorem immTrue_69 (val : Nat → Int) (h : Holds val [.at (.eq (.shr (.wrap .i64 (.wrap .u64 (.shl (.wrap .u64 (.a 0)) 0))) 0) (.a 0)) false, .at (.eq (.a 0) (.shr (.wrap .i64 (.wrap .u64 (.shl (.wrap .u64 (.a 0)) 0))) 0)) true, .at (.eq (.a 0) (.wrap .i64 (.shr (.wrap .u64 (.shl (.wrap .u64 (.a 0)) 0)) 0))) false, .is (.a 1) 64, .ne (.a 1) 32, .ne (.a 1) 16, .ne (.a 1) 8, .ge (.a 0) (-9223372036854775808), .le (.a 0) 9223372036854775807]) : ImmQ true val := by
  exfalso
  have hb : Holds val (List.drop 7 _) := fun f hf => h f (List.mem_of_mem_drop hf)
  have ha : Holds val (List.take 1 _) := fun f hf => h f (List.mem_of_mem_take hf)
  have hc : Holds val (List.take 2 _) := fun f hf => h f (List.mem_of_mem_take hf)
  simp only [List.take_succ_cons, List.take_zero, List.drop_succ_cons, List.drop_zero, Holds, List.forall_mem_cons, List.not_mem_nil, false_implies, implies_true, and_true, Fact.holds, SB.eval, SX.eval, wrapU, wrapI, fdivP, tmodP, beq_iff_eq, beq_eq_false_iff_ne, decide_eq_true_eq, decide_eq_false_iff_not, ne_eq] at h ha hb hc
  simp only [Int.reducePow] at h ha hb hc
  first | (clear h hc; omega) | (clear h; omega) | omega

theorem immTrue_70 (val : Nat → Int) (h : Holds val [.is (.a 0) 0, .at (.eq (.a 0) (.shr (.wrap .i64 (.wrap .u64 (.shl (.wrap .u64 (.a 0)) 0))) 0)) false, .at (.eq (.a 0) (.wrap .i64 (.shr (.wrap .u64 (.shl (.wrap .u64 (.a 0)) 0)) 0))) false, .is (.a 1) 64, .ne (.a 1) 32, .ne (.a 1) 16, .ne (.a 1) 8, .ge (.a 0) (-9223372036854775808), .le (.a 0) 9223372036854775807]) : ImmQ true val :=
  leafI h (by kernel_rfl)

theorem immTrue_71 (val : Nat → Int) (h : Holds val [.ne (.a 0) 0, .at (.eq (.a 0) (.shr (.wrap .i64 (.wrap .u64 (.shl (.wrap .u64 (.a 0)) 0))) 0)) false, .at (.eq (.a 0) (.wrap .i64 (.shr (.wrap .u64 (.shl (.wrap .u64 (.a 0)) 0)) 0))) false, .is (.a 1) 64, .ne (.a 1) 32, .ne (.a 1) 16, .ne (.a 1) 8, .ge (.a 0) (-9223372036854775808), .le (.a 0) 9223372036854775807]) : ImmQ true val := by
  exfalso
  have hb : Holds val (List.drop 7 _) := fun f hf => h f (List.mem_of_mem_drop hf)
  have ha : Holds val (List.take 1 _) := fun f hf => h f (List.mem_of_mem_take hf)
  have hc : Holds val (List.take 2 _) := fun f hf => h f (List.mem_of_mem_take hf)
  simp only [List.take_succ_cons, List.take_zero, List.drop_succ_cons, List.drop_zero, Holds, List.forall_mem_cons, List.not_mem_nil, false_implies, implies_true, and_true, Fact.holds, SB.eval, SX.eval, wrapU, wrapI, fdivP, tmodP, beq_iff_eq, beq_eq_false_iff_ne, decide_eq_true_eq, decide_eq_false_iff_not, ne_eq] at h ha hb hc
  simp only [Int.reducePow] at h ha hb hc
  first | (clear h hc; omega) | (clear h; omega) | omega

theorem immTrue_72 (val : Nat → Int) (h : Holds val [.ne (.a 1) 64, .ne (.a 1) 32, .ne (.a 1) 16, .ne (.a 1) 8, .ge (.a 0) (-9223372036854775808), .le (.a 0) 9223372036854775807]) : ImmQ true val :=
  leafI h (by kernel_rfl)

theorem immTrueSub1 (val : Nat → Int) (h : Holds val [.at (.eq (.a 0) (.wrap .i64 (.shr (.wrap .u64 (.shl (.wrap .u64 (.a 0)) 56)) 56))) false, .is (.a 1) 8, .ge (.a 0) (-9223372036854775808), .le (.a 0) 9223372036854775807]) : ImmQ true val :=
  by_way (.eq (.a 0) (.shr (.wrap .i64 (.wrap .u64 (.shl (.wrap .u64 (.a 0)) 56))) 56)) (.at (.eq (.a 0) (.shr (.wrap .i64 (.wrap .u64 (.shl (.wrap .u64 (.a 0)) 56))) 56)) true) (.at (.eq (.a 0) (.shr (.wrap .i64 (.wrap .u64 (.shl (.wrap .u64 (.a 0)) 56))) 56)) false) (by kernel_rfl) (by kernel_rfl) h
  (fun h => by_way (.lt (.a 0) (.c (-128))) (.le (.a 0) (-129)) (.ge (.a 0) (-128)) (by kernel_rfl) (by kernel_rfl) h
  (fun h => by_way (.eq (.shr (.wrap .i64 (.wrap .u64 (.shl (.wrap .u64 (.a 0)) 56))) 56) (.c 0)) (.is (.shr (.wrap .i64 (.wrap .u64 (.shl (.wrap .u64 (.a 0)) 56))) 56) 0) (.ne (.shr (.wrap .i64 (.wrap .u64 (.shl (.wrap .u64 (.a 0)) 56))) 56) 0) (by kernel_rfl) (by kernel_rfl) h
  (fun h => immTrue_8 val h)
  (fun h => immTrue_9 val h))
  (fun h => by_way (.le (.c 256) (.a 0)) (.ge (.a 0) 256) (.le (.a 0) 255) (by kernel_rfl) (by kernel_rfl) h
  (fun h => by_way (.eq (.shr (.wrap .i64 (.wrap .u64 (.shl (.wrap .u64 (.a 0)) 56))) 56) (.c 0)) (.is (.shr (.wrap .i64 (.wrap .u64 (.shl (.wrap .u64 (.a 0)) 56))) 56) 0) (.ne (.shr (.wrap .i64 (.wrap .u64 (.shl (.wrap .u64 (.a 0)) 56))) 56) 0) (by kernel_rfl) (by kernel_rfl) h
  (fun h => immTrue_10 val h)
  (fun h => immTrue_11 val h))
  (fun h => by_way (.le (.c 128) (.a 0)) (.ge (.a 0) 128) (.le (.a 0) 127) (by kernel_rfl) (by kernel_rfl) h
  (fun h => by_way (.eq (.shr (.wrap .i64 (.wrap .u64 (.shl (.wrap .u64 (.a 0)) 56))) 56) (.wrap .i64 (.sub (.a 0) (.c 256)))) (.at (.eq (.shr (.wrap .i64 (.wrap .u64 (.shl (.wrap .u64 (.a 0)) 56))) 56) (.wrap .i64 (.sub (.a 0) (.c 256)))) true) (.at (.eq (.shr (.wrap .i64 (.wrap .u64 (.shl (.wrap .u64 (.a 0)) 56))) 56) (.wrap .i64 (.sub (.a 0) (.c 256)))) false) (by kernel_rfl) (by kernel_rfl) h
  (fun h => immTrue_12 val h)
  (fun h => immTrue_13 val h))
  (fun h => by_way (.eq (.shr (.wrap .i64 (.wrap .u64 (.shl (.wrap .u64 (.a 0)) 56))) 56) (.a 0)) (.at (.eq (.shr (.wrap .i64 (.wrap .u64 (.shl (.wrap .u64 (.a 0)) 56))) 56) (.a 0)) true) (.at (.eq (.shr (.wrap .i64 (.wrap .u64 (.shl (.wrap .u64 (.a 0)) 56))) 56) (.a 0)) false) (by kernel_rfl) (by kernel_rfl) h
  (fun h => immTrue_14 val h)
  (fun h => immTrue_15 val h)))))
  (fun h => by_way (.lt (.a 0) (.c (-128))) (.le (.a 0) (-129)) (.ge (.a 0) (-128)) (by kernel_rfl) (by kernel_rfl) h
  (fun h => immTrue_16 val h)
  (fun h => by_way (.le (.c 256) (.a 0)) (.ge (.a 0) 256) (.le (.a 0) 255) (by kernel_rfl) (by kernel_rfl) h
  (fun h => immTrue_17 val h)
  (fun h => by_way (.le (.c 128) (.a 0)) (.ge (.a 0) 128) (.le (.a 0) 127) (by kernel_rfl) (by kernel_rfl) h
  (fun h => by_way (.eq (.c 0) (.wrap .i64 (.sub (.a 0) (.c 256)))) (.is (.wrap .i64 (.sub (.a 0) (.c 256))) 0) (.ne (.wrap .i64 (.sub (.a 0) (.c 256))) 0) (by kernel_rfl) (by kernel_rfl) h
  (fun h => immTrue_18 val h)
  (fun h => immTrue_19 val h))
  (fun h => by_way (.eq (.c 0) (.a 0)) (.is (.a 0) 0) (.ne (.a 0) 0) (by kernel_rfl) (by kernel_rfl) h
  (fun h => immTrue_20 val h)
  (fun h => immTrue_21 val h)))))

theorem immTrueSub0 (val : Nat → Int) (h : Holds val [.is (.a 1) 8, .ge (.a 0) (-9223372036854775808), .le (.a 0) 9223372036854775807]) : ImmQ true val :=
  by_way (.eq (.a 0) (.wrap .i64 (.shr (.wrap .u64 (.shl (.wrap .u64 (.a 0)) 56)) 56))) (.at (.eq (.a 0) (.wrap .i64 (.shr (.wrap .u64 (.shl (.wrap .u64 (.a 0)) 56)) 56))) true) (.at (.eq (.a 0) (.wrap .i64 (.shr (.wrap .u64 (.shl (.wrap .u64 (.a 0)) 56)) 56))) false) (by kernel_rfl) (by kernel_rfl) h
  (fun h => by_way (.lt (.a 0) (.c (-128))) (.le (.a 0) (-129)) (.ge (.a 0) (-128)) (by kernel_rfl) (by kernel_rfl) h
  (fun h => by_way (.eq (.shr (.wrap .i64 (.wrap .u64 (.shl (.wrap .u64 (.a 0)) 56))) 56) (.c 0)) (.is (.shr (.wrap .i64 (.wrap .u64 (.shl (.wrap .u64 (.a 0)) 56))) 56) 0) (.ne (.shr (.wrap .i64 (.wrap .u64 (.shl (.wrap .u64 (.a 0)) 56))) 56) 0) (by kernel_rfl) (by kernel_rfl) h
  (fun h => immTrue_0 val h)
  (fun h => immTrue_1 val h))
  (fun h => by_way (.le (.c 256) (.a 0)) (.ge (.a 0) 256) (.le (.a 0) 255) (by kernel_rfl) (by kernel_rfl) h
  (fun h => by_way (.eq (.shr (.wrap .i64 (.wrap .u64 (.shl (.wrap .u64 (.a 0)) 56))) 56) (.c 0)) (.is (.shr (.wrap .i64 (.wrap .u64 (.shl (.wrap .u64 (.a 0)) 56))) 56) 0) (.ne (.shr (.wrap .i64 (.wrap .u64 (.shl (.wrap .u64 (.a 0)) 56))) 56) 0) (by kernel_rfl) (by kernel_rfl) h
  (fun h => immTrue_2 val h)
  (fun h => immTrue_3 val h))
  (fun h => by_way (.le (.c 128) (.a 0)) (.ge (.a 0) 128) (.le (.a 0) 127) (by kernel_rfl) (by kernel_rfl) h
  (fun h => by_way (.eq (.shr (.wrap .i64 (.wrap .u64 (.shl (.wrap .u64 (.a 0)) 56))) 56) (.wrap .i64 (.sub (.a 0) (.c 256)))) (.at (.eq (.shr (.wrap .i64 (.wrap .u64 (.shl (.wrap .u64 (.a 0)) 56))) 56) (.wrap .i64 (.sub (.a 0) (.c 256)))) true) (.at (.eq (.shr (.wrap .i64 (.wrap .u64 (.shl (.wrap .u64 (.a 0)) 56))) 56) (.wrap .i64 (.sub (.a 0) (.c 256)))) false) (by kernel_rfl) (by kernel_rfl) h
  (fun h => immTrue_4 val h)
  (fun h => immTrue_5 val h))
  (fun h => by_way (.eq (.shr (.wrap .i64 (.wrap .u64 (.shl (.wrap .u64 (.a 0)) 56))) 56) (.a 0)) (.at (.eq (.shr (.wrap .i64 (.wrap .u64 (.shl (.wrap .u64 (.a 0)) 56))) 56) (.a 0)) true) (.at (.eq (.shr (.wrap .i64 (.wrap .u64 (.shl (.wrap .u64 (.a 0)) 56))) 56) (.a 0)) false) (by kernel_rfl) (by kernel_rfl) h
  (fun h => immTrue_6 val h)
  (fun h => immTrue_7 val h)))))
  (fun h => immTrueSub1 val h)

theorem immTrueSub4 (val : Nat → Int) (h : Holds val [.at (.eq (.a 0) (.wrap .i64 (.shr (.wrap .u64 (.shl (.wrap .u64 (.a 0)) 48)) 48))) false, .is (.a 1) 16, .ne (.a 1) 8, .ge (.a 0) (-9223372036854775808), .le (.a 0) 9223372036854775807]) : ImmQ true val :=
  by_way (.eq (.a 0) (.shr (.wrap .i64 (.wrap .u64 (.shl (.wrap .u64 (.a 0)) 48))) 48)) (.at (.eq (.a 0) (.shr (.wrap .i64 (.wrap .u64 (.shl (.wrap .u64 (.a 0)) 48))) 48)) true) (.at (.eq (.a 0) (.shr (.wrap .i64 (.wrap .u64 (.shl (.wrap .u64 (.a 0)) 48))) 48)) false) (by kernel_rfl) (by kernel_rfl) h
  (fun h => by_way (.lt (.a 0) (.c (-32768))) (.le (.a 0) (-32769)) (.ge (.a 0) (-32768)) (by kernel_rfl) (by kernel_rfl) h
  (fun h => by_way (.eq (.shr (.wrap .i64 (.wrap .u64 (.shl (.wrap .u64 (.a 0)) 48))) 48) (.c 0)) (.is (.shr (.wrap .i64 (.wrap .u64 (.shl (.wrap .u64 (.a 0)) 48))) 48) 0) (.ne (.shr (.wrap .i64 (.wrap .u64 (.shl (.wrap .u64 (.a 0)) 48))) 48) 0) (by kernel_rfl) (by kernel_rfl) h
  (fun h => immTrue_30 val h)
  (fun h => immTrue_31 val h))
  (fun h => by_way (.le (.c 65536) (.a 0)) (.ge (.a 0) 65536) (.le (.a 0) 65535) (by kernel_rfl) (by kernel_rfl) h
  (fun h => by_way (.eq (.shr (.wrap .i64 (.wrap .u64 (.shl (.wrap .u64 (.a 0)) 48))) 48) (.c 0)) (.is (.shr (.wrap .i64 (.wrap .u64 (.shl (.wrap .u64 (.a 0)) 48))) 48) 0) (.ne (.shr (.wrap .i64 (.wrap .u64 (.shl (.wrap .u64 (.a 0)) 48))) 48) 0) (by kernel_rfl) (by kernel_rfl) h
  (fun h => immTrue_32 val h)
  (fun h => immTrue_33 val h))
  (fun h => by_way (.le (.c 32768) (.a 0)) (.ge (.a 0) 32768) (.le (.a 0) 32767) (by kernel_rfl) (by kernel_rfl) h
  (fun h => by_way (.eq (.shr (.wrap .i64 (.wrap .u64 (.shl (.wrap .u64 (.a 0)) 48))) 48) (.wrap .i64 (.sub (.a 0) (.c 65536)))) (.at (.eq (.shr (.wrap .i64 (.wrap .u64 (.shl (.wrap .u64 (.a 0)) 48))) 48) (.wrap .i64 (.sub (.a 0) (.c 65536)))) true) (.at (.eq (.shr (.wrap .i64 (.wrap .u64 (.shl (.wrap .u64 (.a 0)) 48))) 48) (.wrap .i64 (.sub (.a 0) (.c 65536)))) false) (by kernel_rfl) (by kernel_rfl) h
  (fun h => immTrue_34 val h)
  (fun h => immTrue_35 val h))
  (fun h => by_way (.eq (.shr (.wrap .i64 (.wrap .u64 (.shl (.wrap .u64 (.a 0)) 48))) 48) (.a 0)) (.at (.eq (.shr (.wrap .i64 (.wrap .u64 (.shl (.wrap .u64 (.a 0)) 48))) 48) (.a 0)) true) (.at (.eq (.shr (.wrap .i64 (.wrap .u64 (.shl (.wrap .u64 (.a 0)) 48))) 48) (.a 0)) false) (by kernel_rfl) (by kernel_rfl) h
  (fun h => immTrue_36 val h)
  (fun h => immTrue_37 val h)))))
  (fun h => by_way (.lt (.a 0) (.c (-32768))) (.le (.a 0) (-32769)) (.ge (.a 0) (-32768)) (by kernel_rfl) (by kernel_rfl) h
  (fun h => immTrue_38 val h)
  (fun h => by_way (.le (.c 65536) (.a 0)) (.ge (.a 0) 65536) (.le (.a 0) 65535) (by kernel_rfl) (by kernel_rfl) h
  (fun h => immTrue_39 val h)
  (fun h => by_way (.le (.c 32768) (.a 0)) (.ge (.a 0) 32768) (.le (.a 0) 32767) (by kernel_rfl) (by kernel_rfl) h
  (fun h => by_way (.eq (.c 0) (.wrap .i64 (.sub (.a 0) (.c 65536)))) (.is (.wrap .i64 (.sub (.a 0) (.c 65536))) 0) (.ne (.wrap .i64 (.sub (.a 0) (.c 65536))) 0) (by kernel_rfl) (by kernel_rfl) h
  (fun h => immTrue_40 val h)
  (fun h => immTrue_41 val h))
  (fun h => by_way (.eq (.c 0) (.a 0)) (.is (.a 0) 0) (.ne (.a 0) 0) (by kernel_rfl) (by kernel_rfl) h
  (fun h => immTrue_42 val h)
  (fun h => immTrue_43 val h)))))

theorem immTrueSub3 (val : Nat → Int) (h : Holds val [.is (.a 1) 16, .ne (.a 1) 8, .ge (.a 0) (-9223372036854775808), .le (.a 0) 9223372036854775807]) : ImmQ true val :=
  by_way (.eq (.a 0) (.wrap .i64 (.shr (.wrap .u64 (.shl (.wrap .u64 (.a 0)) 48)) 48))) (.at (.eq (.a 0) (.wrap .i64 (.shr (.wrap .u64 (.shl (.wrap .u64 (.a 0)) 48)) 48))) true) (.at (.eq (.a 0) (.wrap .i64 (.shr (.wrap .u64 (.shl (.wrap .u64 (.a 0)) 48)) 48))) false) (by kernel_rfl) (by kernel_rfl) h
  (fun h => by_way (.lt (.a 0) (.c (-32768))) (.le (.a 0) (-32769)) (.ge (.a 0) (-32768)) (by kernel_rfl) (by kernel_rfl) h
  (fun h => by_way (.eq (.shr (.wrap .i64 (.wrap .u64 (.shl (.wrap .u64 (.a 0)) 48))) 48) (.c 0)) (.is (.shr (.wrap .i64 (.wrap .u64 (.shl (.wrap .u64 (.a 0)) 48))) 48) 0) (.ne (.shr (.wrap .i64 (.wrap .u64 (.shl (.wrap .u64 (.a 0)) 48))) 48) 0) (by kernel_rfl) (by kernel_rfl) h
  (fun h => immTrue_22 val h)
  (fun h => immTrue_23 val h))
  (fun h => by_way (.le (.c 65536) (.a 0)) (.ge (.a 0) 65536) (.le (.a 0) 65535) (by kernel_rfl) (by kernel_rfl) h
  (fun h => by_way (.eq (.shr (.wrap .i64 (.wrap .u64 (.shl (.wrap .u64 (.a 0)) 48))) 48) (.c 0)) (.is (.shr (.wrap .i64 (.wrap .u64 (.shl (.wrap .u64 (.a 0)) 48))) 48) 0) (.ne (.shr (.wrap .i64 (.wrap .u64 (.shl (.wrap .u64 (.a 0)) 48))) 48) 0) (by kernel_rfl) (by kernel_rfl) h
  (fun h => immTrue_24 val h)
  (fun h => immTrue_25 val h))
  (fun h => by_way (.le (.c 32768) (.a 0)) (.ge (.a 0) 32768) (.le (.a 0) 32767) (by kernel_rfl) (by kernel_rfl) h
  (fun h => by_way (.eq (.shr (.wrap .i64 (.wrap .u64 (.shl (.wrap .u64 (.a 0)) 48))) 48) (.wrap .i64 (.sub (.a 0) (.c 65536)))) (.at (.eq (.shr (.wrap .i64 (.wrap .u64 (.shl (.wrap .u64 (.a 0)) 48))) 48) (.wrap .i64 (.sub (.a 0) (.c 65536)))) true) (.at (.eq (.shr (.wrap .i64 (.wrap .u64 (.shl (.wrap .u64 (.a 0)) 48))) 48) (.wrap .i64 (.sub (.a 0) (.c 65536)))) false) (by kernel_rfl) (by kernel_rfl) h
  (fun h => immTrue_26 val h)
  (fun h => immTrue_27 val h))
  (fun h => by_way (.eq (.shr (.wrap .i64 (.wrap .u64 (.shl (.wrap .u64 (.a 0)) 48))) 48) (.a 0)) (.at (.eq (.shr (.wrap .i64 (.wrap .u64 (.shl (.wrap .u64 (.a 0)) 48))) 48) (.a 0)) true) (.at (.eq (.shr (.wrap .i64 (.wrap .u64 (.shl (.wrap .u64 (.a 0)) 48))) 48) (.a 0)) false) (by kernel_rfl) (by kernel_rfl) h
  (fun h => immTrue_28 val h)
  (fun h => immTrue_29 val h)))))
  (fun h => immTrueSub4 val h)

theorem immTrueSub7 (val : Nat → Int) (h : Holds val [.at (.eq (.a 0) (.wrap .i64 (.shr (.wrap .u64 (.shl (.wrap .u64 (.a 0)) 32)) 32))) false, .is (.a 1) 32, .ne (.a 1) 16, .ne (.a 1) 8, .ge (.a 0) (-9223372036854775808), .le (.a 0) 9223372036854775807]) : ImmQ true val :=
  by_way (.eq (.a 0) (.shr (.wrap .i64 (.wrap .u64 (.shl (.wrap .u64 (.a 0)) 32))) 32)) (.at (.eq (.a 0) (.shr (.wrap .i64 (.wrap .u64 (.shl (.wrap .u64 (.a 0)) 32))) 32)) true) (.at (.eq (.a 0) (.shr (.wrap .i64 (.wrap .u64 (.shl (.wrap .u64 (.a 0)) 32))) 32)) false) (by kernel_rfl) (by kernel_rfl) h
  (fun h => by_way (.lt (.a 0) (.c (-2147483648))) (.le (.a 0) (-2147483649)) (.ge (.a 0) (-2147483648)) (by kernel_rfl) (by kernel_rfl) h
  (fun h => by_way (.eq (.shr (.wrap .i64 (.wrap .u64 (.shl (.wrap .u64 (.a 0)) 32))) 32) (.c 0)) (.is (.shr (.wrap .i64 (.wrap .u64 (.shl (.wrap .u64 (.a 0)) 32))) 32) 0) (.ne (.shr (.wrap .i64 (.wrap .u64 (.shl (.wrap .u64 (.a 0)) 32))) 32) 0) (by kernel_rfl) (by kernel_rfl) h
  (fun h => immTrue_52 val h)
  (fun h => immTrue_53 val h))
  (fun h => by_way (.le (.c 4294967296) (.a 0)) (.ge (.a 0) 4294967296) (.le (.a 0) 4294967295) (by kernel_rfl) (by kernel_rfl) h
  (fun h => by_way (.eq (.shr (.wrap .i64 (.wrap .u64 (.shl (.wrap .u64 (.a 0)) 32))) 32) (.c 0)) (.is (.shr (.wrap .i64 (.wrap .u64 (.shl (.wrap .u64 (.a 0)) 32))) 32) 0) (.ne (.shr (.wrap .i64 (.wrap .u64 (.shl (.wrap .u64 (.a 0)) 32))) 32) 0) (by kernel_rfl) (by kernel_rfl) h
  (fun h => immTrue_54 val h)
  (fun h => immTrue_55 val h))
  (fun h => by_way (.le (.c 2147483648) (.a 0)) (.ge (.a 0) 2147483648) (.le (.a 0) 2147483647) (by kernel_rfl) (by kernel_rfl) h
  (fun h => by_way (.eq (.shr (.wrap .i64 (.wrap .u64 (.shl (.wrap .u64 (.a 0)) 32))) 32) (.wrap .i64 (.sub (.a 0) (.c 4294967296)))) (.at (.eq (.shr (.wrap .i64 (.wrap .u64 (.shl (.wrap .u64 (.a 0)) 32))) 32) (.wrap .i64 (.sub (.a 0) (.c 4294967296)))) true) (.at (.eq (.shr (.wrap .i64 (.wrap .u64 (.shl (.wrap .u64 (.a 0)) 32))) 32) (.wrap .i64 (.sub (.a 0) (.c 4294967296)))) false) (by kernel_rfl) (by kernel_rfl) h
  (fun h => immTrue_56 val h)
  (fun h => immTrue_57 val h))
  (fun h => by_way (.eq (.shr (.wrap .i64 (.wrap .u64 (.shl (.wrap .u64 (.a 0)) 32))) 32) (.a 0)) (.at (.eq (.shr (.wrap .i64 (.wrap .u64 (.shl (.wrap .u64 (.a 0)) 32))) 32) (.a 0)) true) (.at (.eq (.shr (.wrap .i64 (.wrap .u64 (.shl (.wrap .u64 (.a 0)) 32))) 32) (.a 0)) false) (by kernel_rfl) (by kernel_rfl) h
  (fun h => immTrue_58 val h)
  (fun h => immTrue_59 val h)))))
  (fun h => by_way (.lt (.a 0) (.c (-2147483648))) (.le (.a 0) (-2147483649)) (.ge (.a 0) (-2147483648)) (by kernel_rfl) (by kernel_rfl) h
  (fun h => immTrue_60 val h)
  (fun h => by_way (.le (.c 4294967296) (.a 0)) (.ge (.a 0) 4294967296) (.le (.a 0) 4294967295) (by kernel_rfl) (by kernel_rfl) h
  (fun h => immTrue_61 val h)
  (fun h => by_way (.le (.c 2147483648) (.a 0)) (.ge (.a 0) 2147483648) (.le (.a 0) 2147483647) (by kernel_rfl) (by kernel_rfl) h
  (fun h => by_way (.eq (.c 0) (.wrap .i64 (.sub (.a 0) (.c 4294967296)))) (.is (.wrap .i64 (.sub (.a 0) (.c 4294967296))) 0) (.ne (.wrap .i64 (.sub (.a 0) (.c 4294967296))) 0) (by kernel_rfl) (by kernel_rfl) h
  (fun h => immTrue_62 val h)
  (fun h => immTrue_63 val h))
  (fun h => by_way (.eq (.c 0) (.a 0)) (.is (.a 0) 0) (.ne (.a 0) 0) (by kernel_rfl) (by kernel_rfl) h
  (fun h => immTrue_64 val h)
  (fun h => immTrue_65 val h)))))

theorem immTrueSub6 (val : Nat → Int) (h : Holds val [.is (.a 1) 32, .ne (.a 1) 16, .ne (.a 1) 8, .ge (.a 0) (-9223372036854775808), .le (.a 0) 9223372036854775807]) : ImmQ true val :=
  by_way (.eq (.a 0) (.wrap .i64 (.shr (.wrap .u64 (.shl (.wrap .u64 (.a 0)) 32)) 32))) (.at (.eq (.a 0) (.wrap .i64 (.shr (.wrap .u64 (.shl (.wrap .u64 (.a 0)) 32)) 32))) true) (.at (.eq (.a 0) (.wrap .i64 (.shr (.wrap .u64 (.shl (.wrap .u64 (.a 0)) 32)) 32))) false) (by kernel_rfl) (by kernel_rfl) h
  (fun h => by_way (.lt (.a 0) (.c (-2147483648))) (.le (.a 0) (-2147483649)) (.ge (.a 0) (-2147483648)) (by kernel_rfl) (by kernel_rfl) h
  (fun h => by_way (.eq (.shr (.wrap .i64 (.wrap .u64 (.shl (.wrap .u64 (.a 0)) 32))) 32) (.c 0)) (.is (.shr (.wrap .i64 (.wrap .u64 (.shl (.wrap .u64 (.a 0)) 32))) 32) 0) (.ne (.shr (.wrap .i64 (.wrap .u64 (.shl (.wrap .u64 (.a 0)) 32))) 32) 0) (by kernel_rfl) (by kernel_rfl) h
  (fun h => immTrue_44 val h)
  (fun h => immTrue_45 val h))
  (fun h => by_way (.le (.c 4294967296) (.a 0)) (.ge (.a 0) 4294967296) (.le (.a 0) 4294967295) (by kernel_rfl) (by kernel_rfl) h
  (fun h => by_way (.eq (.shr (.wrap .i64 (.wrap .u64 (.shl (.wrap .u64 (.a 0)) 32))) 32) (.c 0)) (.is (.shr (.wrap .i64 (.wrap .u64 (.shl (.wrap .u64 (.a 0)) 32))) 32) 0) (.ne (.shr (.wrap .i64 (.wrap .u64 (.shl (.wrap .u64 (.a 0)) 32))) 32) 0) (by kernel_rfl) (by kernel_rfl) h
  (fun h => immTrue_46 val h)
  (fun h => immTrue_47 val h))
  (fun h => by_way (.le (.c 2147483648) (.a 0)) (.ge (.a 0) 2147483648) (.le (.a 0) 2147483647) (by kernel_rfl) (by kernel_rfl) h
  (fun h => by_way (.eq (.shr (.wrap .i64 (.wrap .u64 (.shl (.wrap .u64 (.a 0)) 32))) 32) (.wrap .i64 (.sub (.a 0) (.c 4294967296)))) (.at (.eq (.shr (.wrap .i64 (.wrap .u64 (.shl (.wrap .u64 (.a 0)) 32))) 32) (.wrap .i64 (.sub (.a 0) (.c 4294967296)))) true) (.at (.eq (.shr (.wrap .i64 (.wrap .u64 (.shl (.wrap .u64 (.a 0)) 32))) 32) (.wrap .i64 (.sub (.a 0) (.c 4294967296)))) false) (by kernel_rfl) (by kernel_rfl) h
  (fun h => immTrue_48 val h)
  (fun h => immTrue_49 val h))
  (fun h => by_way (.eq (.shr (.wrap .i64 (.wrap .u64 (.shl (.wrap .u64 (.a 0)) 32))) 32) (.a 0)) (.at (.eq (.shr (.wrap .i64 (.wrap .u64 (.shl (.wrap .u64 (.a 0)) 32))) 32) (.a 0)) true) (.at (.eq (.shr (.wrap .i64 (.wrap .u64 (.shl (.wrap .u64 (.a 0)) 32))) 32) (.a 0)) false) (by kernel_rfl) (by kernel_rfl) h
  (fun h => immTrue_50 val h)
  (fun h => immTrue_51 val h)))))
  (fun h => immTrueSub7 val h)

theorem immTrueSub5 (val : Nat → Int) (h : Holds val [.ne (.a 1) 16, .ne (.a 1) 8, .ge (.a 0) (-9223372036854775808), .le (.a 0) 9223372036854775807]) : ImmQ true val :=
  by_way (.eq (.a 1) (.c 32)) (.is (.a 1) 32) (.ne (.a 1) 32) (by kernel_rfl) (by kernel_rfl) h
  (fun h => immTrueSub6 val h)
  (fun h => by_way (.eq (.a 1) (.c 64)) (.is (.a 1) 64) (.ne (.a 1) 64) (by kernel_rfl) (by kernel_rfl) h
  (fun h => by_way (.eq (.a 0) (.wrap .i64 (.shr (.wrap .u64 (.shl (.wrap .u64 (.a 0)) 0)) 0))) (.at (.eq (.a 0) (.wrap .i64 (.shr (.wrap .u64 (.shl (.wrap .u64 (.a 0)) 0)) 0))) true) (.at (.eq (.a 0) (.wrap .i64 (.shr (.wrap .u64 (.shl (.wrap .u64 (.a 0)) 0)) 0))) false) (by kernel_rfl) (by kernel_rfl) h
  (fun h => by_way (.eq (.shr (.wrap .i64 (.wrap .u64 (.shl (.wrap .u64 (.a 0)) 0))) 0) (.a 0)) (.at (.eq (.shr (.wrap .i64 (.wrap .u64 (.shl (.wrap .u64 (.a 0)) 0))) 0) (.a 0)) true) (.at (.eq (.shr (.wrap .i64 (.wrap .u64 (.shl (.wrap .u64 (.a 0)) 0))) 0) (.a 0)) false) (by kernel_rfl) (by kernel_rfl) h
  (fun h => immTrue_66 val h)
  (fun h => immTrue_67 val h))
  (fun h => by_way (.eq (.a 0) (.shr (.wrap .i64 (.wrap .u64 (.shl (.wrap .u64 (.a 0)) 0))) 0)) (.at (.eq (.a 0) (.shr (.wrap .i64 (.wrap .u64 (.shl (.wrap .u64 (.a 0)) 0))) 0)) true) (.at (.eq (.a 0) (.shr (.wrap .i64 (.wrap .u64 (.shl (.wrap .u64 (.a 0)) 0))) 0)) false) (by kernel_rfl) (by kernel_rfl) h
  (fun h => by_way (.eq (.shr (.wrap .i64 (.wrap .u64 (.shl (.wrap .u64 (.a 0)) 0))) 0) (.a 0)) (.at (.eq (.shr (.wrap .i64 (.wrap .u64 (.shl (.wrap .u64 (.a 0)) 0))) 0) (.a 0)) true) (.at (.eq (.shr (.wrap .i64 (.wrap .u64 (.shl (.wrap .u64 (.a 0)) 0))) 0) (.a 0)) false) (by kernel_rfl) (by kernel_rfl) h
  (fun h => immTrue_68 val h)
  (fun h => immTrue_69 val h))
  (fun h => by_way (.eq (.c 0) (.a 0)) (.is (.a 0) 0) (.ne (.a 0) 0) (by kernel_rfl) (by kernel_rfl) h
  (fun h => immTrue_70 val h)
  (fun h => immTrue_71 val h))))
  (fun h => immTrue_72 val h))

theorem immTrueSub2 (val : Nat → Int) (h : Holds val [.ne (.a 1) 8, .ge (.a 0) (-9223372036854775808), .le (.a 0) 9223372036854775807]) : ImmQ true val :=
  by_way (.eq (.a 1) (.c 16)) (.is (.a 1) 16) (.ne (.a 1) 16) (by kernel_rfl) (by kernel_rfl) h
  (fun h => immTrueSub3 val h)
  (fun h => immTrueSub5 val h)

theorem immTrue (val : Nat → Int) (h : Holds val [.ge (.a 0) (-9223372036854775808), .le (.a 0) 9223372036854775807]) : ImmQ true val :=
  by_way (.eq (.a 1) (.c 8)) (.is (.a 1) 8) (.ne (.a 1) 8) (by kernel_rfl) (by kernel_rfl) h
  (fun h => immTrueSub0 val h)
  (fun h => immTrueSub2 val h)

end Go.Proofs.Ytclhjdddakmafaa.Tab
