/-
  Ways through the code, part 2.
-/
import Derived.Test.YtclhjdddakmafaaImmH
namespace Go.Proofs.Ytclhjdddakmafaa.Tab
open Go.Sim
set_option maxRecDepth 100000
set_option linter.unusedSimpArgs false
set_option maxHeartbeats 2000000

abbrev ylike2_0 : SX := .shl (.wrap .u64 (.a 0)) 32
abbrev ylike2_1 : SX := .add (.rem (.a 1) 4) (.c 4)
abbrev ylike2_2 : SX := .rem (.wrap .i64 ylike2_1) 4
abbrev ylike2_3 : SX := .shr (.wrap .u64 ylike2_0) 32
abbrev ylike2_4 : SX := .wrap .i64 (.wrap .u64 ylike2_0)
abbrev ylike2_5 : SX := .wrap .u64 (.shr ylike2_4 32)
abbrev ylike2_6 : SX := .wrap .u64 (.shl ylike2_5 32)
abbrev ylike2_7 : SX := .wrap .i64 (.shr ylike2_6 32)
abbrev ylike2_8 : SX := .shr (.wrap .i64 ylike2_6) 32
abbrev ylike2_9 : SB := .eq (.a 0) (.shr ylike2_4 32)
abbrev ylike2_10 : SB := .eq (.shr ylike2_4 32) (.c 0)
abbrev ylike2_11 : SX := .sub (.shr ylike2_4 32) (.a 0)
abbrev ylike2_12 : SB := .eq ylike2_8 (.shr ylike2_4 32)
abbrev ylike2_13 : SB := .eq (.shr ylike2_4 32) ylike2_7
abbrev ylike2_14 : SB := .eq (.shr ylike2_4 32) ylike2_8
abbrev ylike2_15 : SX := .wrap .u64 (.wrap .i64 ylike2_3)
abbrev ylike2_16 : SX := .wrap .u64 (.shl ylike2_15 32)
abbrev ylike2_17 : SX := .shr (.wrap .i64 ylike2_16) 32
abbrev ylike2_18 : SX := .wrap .i64 (.shr ylike2_16 32)
abbrev ylike2_19 : SB := .eq ylike2_17 (.shr ylike2_4 32)
abbrev ylike2_20 : SB := .eq (.a 0) (.wrap .i64 ylike2_3)
abbrev ylike2_21 : SB := .eq (.c 0) (.wrap .i64 ylike2_3)
abbrev ylike2_22 : SX := .sub (.wrap .i64 ylike2_3) (.a 0)
abbrev ylike2_23 : SB := .eq ylike2_7 (.wrap .i64 ylike2_3)
abbrev ylike2_24 : SB := .eq ylike2_18 (.wrap .i64 ylike2_3)
abbrev ylike2_25 : SB := .eq (.wrap .i64 ylike2_3) ylike2_18
abbrev ylike2_26 : SB := .eq (.wrap .i64 ylike2_3) ylike2_17
abbrev ylike2_27 : SX := .rem (.wrap .i64 ylike2_22) 4294967296
abbrev ylike2_28 : SX := .rem (.wrap .i64 ylike2_11) 4294967296

theorem like2_0 (val : Nat → Int) (h : Holds val [.is ylike2_27 0, .is ylike2_28 0, .le (.wrap .i64 ylike2_3) 4294967295, .ge (.wrap .i64 ylike2_3) 0, .le (.shr ylike2_4 32) 2147483647, .ge (.shr ylike2_4 32) (-2147483648), .at ylike2_19 true, .at ylike2_23 true, .at ylike2_24 true, .at ylike2_25 true, .at ylike2_12 true, .at ylike2_13 true, .at ylike2_20 true, .is ylike2_2 2, .ge (.a 0) (-9223372036854775808), .le (.a 0) 9223372036854775807]) : LikeQ val :=
  leafK h (by kernel_rfl)

theorem like2_1 (val : Nat → Int) (h : Holds val [.ne ylike2_27 0, .is ylike2_28 0, .le (.wrap .i64 ylike2_3) 4294967295, .ge (.wrap .i64 ylike2_3) 0, .le (.shr ylike2_4 32) 2147483647, .ge (.shr ylike2_4 32) (-2147483648), .at ylike2_19 true, .at ylike2_23 true, .at ylike2_24 true, .at ylike2_25 true, .at ylike2_12 true, .at ylike2_13 true, .at ylike2_20 true, .is ylike2_2 2, .ge (.a 0) (-9223372036854775808), .le (.a 0) 9223372036854775807]) : LikeQ val := by
  exfalso
  have hb : Holds val (List.drop 13 _) := fun f hf => h f (List.mem_of_mem_drop hf)
  have ha : Holds val (List.take 1 _) := fun f hf => h f (List.mem_of_mem_take hf)
  have hc : Holds val (List.take 2 _) := fun f hf => h f (List.mem_of_mem_take hf)
  simp only [List.take_succ_cons, List.take_zero, List.drop_succ_cons, List.drop_zero, Holds, List.forall_mem_cons, List.not_mem_nil, false_implies, implies_true, and_true, Fact.holds, SB.eval, SX.eval, ylike2_0, ylike2_1, ylike2_2, ylike2_3, ylike2_4, ylike2_5, ylike2_6, ylike2_7, ylike2_8, ylike2_9, ylike2_10, ylike2_11, ylike2_12, ylike2_13, ylike2_14, ylike2_15, ylike2_16, ylike2_17, ylike2_18, ylike2_19, ylike2_20, ylike2_21, ylike2_22, ylike2_23, ylike2_24, ylike2_25, ylike2_26, ylike2_27, ylike2_28, wrapU, wrapI, fdivP, tmodP, beq_iff_eq, beq_eq_false_iff_ne, decide_eq_true_eq, decide_eq_false_iff_not, ne_eq] at h ha hb hc
  simp only [Int.reducePow] at h ha hb hc
  first | (clear h hc; omega) | (clear h; omega) | omega

theorem like2_2 (val : Nat → Int) (h : Holds val [.ne ylike2_28 0, .le (.wrap .i64 ylike2_3) 4294967295, .ge (.wrap .i64 ylike2_3) 0, .le (.shr ylike2_4 32) 2147483647, .ge (.shr ylike2_4 32) (-2147483648), .at ylike2_19 true, .at ylike2_23 true, .at ylike2_24 true, .at ylike2_25 true, .at ylike2_12 true, .at ylike2_13 true, .at ylike2_20 true, .is ylike2_2 2, .ge (.a 0) (-9223372036854775808), .le (.a 0) 9223372036854775807]) : LikeQ val := by
  exfalso
  have hb : Holds val (List.drop 12 _) := fun f hf => h f (List.mem_of_mem_drop hf)
  have ha : Holds val (List.take 1 _) := fun f hf => h f (List.mem_of_mem_take hf)
  have hc : Holds val (List.take 2 _) := fun f hf => h f (List.mem_of_mem_take hf)
  simp only [List.take_succ_cons, List.take_zero, List.drop_succ_cons, List.drop_zero, Holds, List.forall_mem_cons, List.not_mem_nil, false_implies, implies_true, and_true, Fact.holds, SB.eval, SX.eval, ylike2_0, ylike2_1, ylike2_2, ylike2_3, ylike2_4, ylike2_5, ylike2_6, ylike2_7, ylike2_8, ylike2_9, ylike2_10, ylike2_11, ylike2_12, ylike2_13, ylike2_14, ylike2_15, ylike2_16, ylike2_17, ylike2_18, ylike2_19, ylike2_20, ylike2_21, ylike2_22, ylike2_23, ylike2_24, ylike2_25, ylike2_26, ylike2_27, ylike2_28, wrapU, wrapI, fdivP, tmodP, beq_iff_eq, beq_eq_false_iff_ne, decide_eq_true_eq, decide_eq_false_iff_not, ne_eq] at h ha hb hc
  simp only [Int.reducePow] at h ha hb hc
  first | (clear h hc; omega) | (clear h; omega) | omega

theorem like2_3 (val : Nat → Int) (h : Holds val [.ge (.wrap .i64 ylike2_3) 4294967296, .ge (.wrap .i64 ylike2_3) 0, .le (.shr ylike2_4 32) 2147483647, .ge (.shr ylike2_4 32) (-2147483648), .at ylike2_19 true, .at ylike2_23 true, .at ylike2_24 true, .at ylike2_25 true, .at ylike2_12 true, .at ylike2_13 true, .at ylike2_20 true, .is ylike2_2 2, .ge (.a 0) (-9223372036854775808), .le (.a 0) 9223372036854775807]) : LikeQ val := by
  exfalso
  have hb : Holds val (List.drop 11 _) := fun f hf => h f (List.mem_of_mem_drop hf)
  have ha : Holds val (List.take 1 _) := fun f hf => h f (List.mem_of_mem_take hf)
  have hc : Holds val (List.take 2 _) := fun f hf => h f (List.mem_of_mem_take hf)
  simp only [List.take_succ_cons, List.take_zero, List.drop_succ_cons, List.drop_zero, Holds, List.forall_mem_cons, List.not_mem_nil, false_implies, implies_true, and_true, Fact.holds, SB.eval, SX.eval, ylike2_0, ylike2_1, ylike2_2, ylike2_3, ylike2_4, ylike2_5, ylike2_6, ylike2_7, ylike2_8, ylike2_9, ylike2_10, ylike2_11, ylike2_12, ylike2_13, ylike2_14, ylike2_15, ylike2_16, ylike2_17, ylike2_18, ylike2_19, ylike2_20, ylike2_21, ylike2_22, ylike2_23, ylike2_24, ylike2_25, ylike2_26, ylike2_27, ylike2_28, wrapU, wrapI, fdivP, tmodP, beq_iff_eq, beq_eq_false_iff_ne, decide_eq_true_eq, decide_eq_false_iff_not, ne_eq] at h ha hb hc
  simp only [Int.reducePow] at h ha hb hc
  first | (clear h hc; omega) | (clear h; omega) | omega

theorem like2_4 (val : Nat → Int) (h : Holds val [.le (.wrap .i64 ylike2_3) (-1), .le (.shr ylike2_4 32) 2147483647, .ge (.shr ylike2_4 32) (-2147483648), .at ylike2_19 true, .at ylike2_23 true, .at ylike2_24 true, .at ylike2_25 true, .at ylike2_12 true, .at ylike2_13 true, .at ylike2_20 true, .is ylike2_2 2, .ge (.a 0) (-9223372036854775808), .le (.a 0) 9223372036854775807]) : LikeQ val := by
  exfalso
  have hb : Holds val (List.drop 10 _) := fun f hf => h f (List.mem_of_mem_drop hf)
  have ha : Holds val (List.take 1 _) := fun f hf => h f (List.mem_of_mem_take hf)
  have hc : Holds val (List.take 2 _) := fun f hf => h f (List.mem_of_mem_take hf)
  simp only [List.take_succ_cons, List.take_zero, List.drop_succ_cons, List.drop_zero, Holds, List.forall_mem_cons, List.not_mem_nil, false_implies, implies_true, and_true, Fact.holds, SB.eval, SX.eval, ylike2_0, ylike2_1, ylike2_2, ylike2_3, ylike2_4, ylike2_5, ylike2_6, ylike2_7, ylike2_8, ylike2_9, ylike2_10, ylike2_11, ylike2_12, ylike2_13, ylike2_14, ylike2_15, ylike2_16, ylike2_17, ylike2_18, ylike2_19, ylike2_20, ylike2_21, ylike2_22, ylike2_23, ylike2_24, ylike2_25, ylike2_26, ylike2_27, ylike2_28, wrapU, wrapI, fdivP, tmodP, beq_iff_eq, beq_eq_false_iff_ne, decide_eq_true_eq, decide_eq_false_iff_not, ne_eq] at h ha hb hc
  simp only [Int.reducePow] at h ha hb hc
  first | (clear h hc; omega) | (clear h; omega) | omega

theorem like2_5 (val : Nat → Int) (h : Holds val [.ge (.shr ylike2_4 32) 2147483648, .ge (.shr ylike2_4 32) (-2147483648), .at ylike2_19 true, .at ylike2_23 true, .at ylike2_24 true, .at ylike2_25 true, .at ylike2_12 true, .at ylike2_13 true, .at ylike2_20 true, .is ylike2_2 2, .ge (.a 0) (-9223372036854775808), .le (.a 0) 9223372036854775807]) : LikeQ val := by
  exfalso
  have hb : Holds val (List.drop 9 _) := fun f hf => h f (List.mem_of_mem_drop hf)
  have ha : Holds val (List.take 1 _) := fun f hf => h f (List.mem_of_mem_take hf)
  have hc : Holds val (List.take 2 _) := fun f hf => h f (List.mem_of_mem_take hf)
  simp only [List.take_succ_cons, List.take_zero, List.drop_succ_cons, List.drop_zero, Holds, List.forall_mem_cons, List.not_mem_nil, false_implies, implies_true, and_true, Fact.holds, SB.eval, SX.eval, ylike2_0, ylike2_1, ylike2_2, ylike2_3, ylike2_4, ylike2_5, ylike2_6, ylike2_7, ylike2_8, ylike2_9, ylike2_10, ylike2_11, ylike2_12, ylike2_13, ylike2_14, ylike2_15, ylike2_16, ylike2_17, ylike2_18, ylike2_19, ylike2_20, ylike2_21, ylike2_22, ylike2_23, ylike2_24, ylike2_25, ylike2_26, ylike2_27, ylike2_28, wrapU, wrapI, fdivP, tmodP, beq_iff_eq, beq_eq_false_iff_ne, decide_eq_true_eq, decide_eq_false_iff_not, ne_eq] at h ha hb hc
  simp only [Int.reducePow] at h ha hb hc
  first | (clear h hc; omega) | (clear h; omega) | omega

theorem like2_6 (val : Nat → Int) (h : Holds val [.le (.shr ylike2_4 32) (-2147483649), .at ylike2_19 true, .at ylike2_23 true, .at ylike2_24 true, .at ylike2_25 true, .at ylike2_12 true, .at ylike2_13 true, .at ylike2_20 true, .is ylike2_2 2, .ge (.a 0) (-9223372036854775808), .le (.a 0) 9223372036854775807]) : LikeQ val := by
  exfalso
  have hb : Holds val (List.drop 8 _) := fun f hf => h f (List.mem_of_mem_drop hf)
  have ha : Holds val (List.take 1 _) := fun f hf => h f (List.mem_of_mem_take hf)
  have hc : Holds val (List.take 2 _) := fun f hf => h f (List.mem_of_mem_take hf)
  simp only [List.take_succ_cons, List.take_zero, List.drop_succ_cons, List.drop_zero, Holds, List.forall_mem_cons, List.not_mem_nil, false_implies, implies_true, and_true, Fact.holds, SB.eval, SX.eval, ylike2_0, ylike2_1, ylike2_2, ylike2_3, ylike2_4, ylike2_5, ylike2_6, ylike2_7, ylike2_8, ylike2_9, ylike2_10, ylike2_11, ylike2_12, ylike2_13, ylike2_14, ylike2_15, ylike2_16, ylike2_17, ylike2_18, ylike2_19, ylike2_20, ylike2_21, ylike2_22, ylike2_23, ylike2_24, ylike2_25, ylike2_26, ylike2_27, ylike2_28, wrapU, wrapI, fdivP, tmodP, beq_iff_eq, beq_eq_false_iff_ne, decide_eq_true_eq, decide_eq_false_iff_not, ne_eq] at h ha hb hc
  simp only [Int.reducePow] at h ha hb hc
  first | (clear h hc; omega) | (clear h; omega) | omega

theorem like2_7 (val : Nat → Int) (h : Holds val [.at ylike2_19 false, .at ylike2_23 true, .at ylike2_24 true, .at ylike2_25 true, .at ylike2_12 true, .at ylike2_13 true, .at ylike2_20 true, .is ylike2_2 2, .ge (.a 0) (-9223372036854775808), .le (.a 0) 9223372036854775807]) : LikeQ val := by
  exfalso
  have hb : Holds val (List.drop 7 _) := fun f hf => h f (List.mem_of_mem_drop hf)
  have ha : Holds val (List.take 1 _) := fun f hf => h f (List.mem_of_mem_take hf)
  have hc : Holds val (List.take 2 _) := fun f hf => h f (List.mem_of_mem_take hf)
  simp only [List.take_succ_cons, List.take_zero, List.drop_succ_cons, List.drop_zero, Holds, List.forall_mem_cons, List.not_mem_nil, false_implies, implies_true, and_true, Fact.holds, SB.eval, SX.eval, ylike2_0, ylike2_1, ylike2_2, ylike2_3, ylike2_4, ylike2_5, ylike2_6, ylike2_7, ylike2_8, ylike2_9, ylike2_10, ylike2_11, ylike2_12, ylike2_13, ylike2_14, ylike2_15, ylike2_16, ylike2_17, ylike2_18, ylike2_19, ylike2_20, ylike2_21, ylike2_22, ylike2_23, ylike2_24, ylike2_25, ylike2_26, ylike2_27, ylike2_28, wrapU, wrapI, fdivP, tmodP, beq_iff_eq, beq_eq_false_iff_ne, decide_eq_true_eq, decide_eq_false_iff_not, ne_eq] at h ha hb hc
  simp only [Int.reducePow] at h ha hb hc
  first | (clear h hc; omega) | (clear h; omega) | omega

theorem like2_8 (val : Nat → Int) (h : Holds val [.at ylike2_23 false, .at ylike2_24 true, .at ylike2_25 true, .at ylike2_12 true, .at ylike2_13 true, .at ylike2_20 true, .is ylike2_2 2, .ge (.a 0) (-9223372036854775808), .le (.a 0) 9223372036854775807]) : LikeQ val := by
  exfalso
  have hb : Holds val (List.drop 6 _) := fun f hf => h f (List.mem_of_mem_drop hf)
  have ha : Holds val (List.take 1 _) := fun f hf => h f (List.mem_of_mem_take hf)
  have hc : Holds val (List.take 2 _) := fun f hf => h f (List.mem_of_mem_take hf)
  simp only [List.take_succ_cons, List.take_zero, List.drop_succ_cons, List.drop_zero, Holds, List.forall_mem_cons, List.not_mem_nil, false_implies, implies_true, and_true, Fact.holds, SB.eval, SX.eval, ylike2_0, ylike2_1, ylike2_2, ylike2_3, ylike2_4, ylike2_5, ylike2_6, ylike2_7, ylike2_8, ylike2_9, ylike2_10, ylike2_11, ylike2_12, ylike2_13, ylike2_14, ylike2_15, ylike2_16, ylike2_17, ylike2_18, ylike2_19, ylike2_20, ylike2_21, ylike2_22, ylike2_23, ylike2_24, ylike2_25, ylike2_26, ylike2_27, ylike2_28, wrapU, wrapI, fdivP, tmodP, beq_iff_eq, beq_eq_false_iff_ne, decide_eq_true_eq, decide_eq_false_iff_not, ne_eq] at h ha hb hc
  simp only [Int.reducePow] at h ha hb hc
  first | (clear h hc; omega) | (clear h; omega) | omega

theorem like2_9 (val : Nat → Int) (h : Holds val [.at ylike2_24 false, .at ylike2_25 true, .at ylike2_12 true, .at ylike2_13 true, .at ylike2_20 true, .is ylike2_2 2, .ge (.a 0) (-9223372036854775808), .le (.a 0) 9223372036854775807]) : LikeQ val := by
  exfalso
  have hb : Holds val (List.drop 5 _) := fun f hf => h f (List.mem_of_mem_drop hf)
  have ha : Holds val (List.take 1 _) := fun f hf => h f (List.mem_of_mem_take hf)
  have hc : Holds val (List.take 2 _) := fun f hf => h f (List.mem_of_mem_take hf)
  simp only [List.take_succ_cons, List.take_zero, List.drop_succ_cons, List.drop_zero, Holds, List.forall_mem_cons, List.not_mem_nil, false_implies, implies_true, and_true, Fact.holds, SB.eval, SX.eval, ylike2_0, ylike2_1, ylike2_2, ylike2_3, ylike2_4, ylike2_5, ylike2_6, ylike2_7, ylike2_8, ylike2_9, ylike2_10, ylike2_11, ylike2_12, ylike2_13, ylike2_14, ylike2_15, ylike2_16, ylike2_17, ylike2_18, ylike2_19, ylike2_20, ylike2_21, ylike2_22, ylike2_23, ylike2_24, ylike2_25, ylike2_26, ylike2_27, ylike2_28, wrapU, wrapI, fdivP, tmodP, beq_iff_eq, beq_eq_false_iff_ne, decide_eq_true_eq, decide_eq_false_iff_not, ne_eq] at h ha hb hc
  simp only [Int.reducePow] at h ha hb hc
  first | (clear h hc; omega) | (clear h; omega) | omega

theorem like2_10 (val : Nat → Int) (h : Holds val [.is ylike2_27 0, .is ylike2_28 0, .le (.wrap .i64 ylike2_3) 4294967295, .ge (.wrap .i64 ylike2_3) 0, .le (.shr ylike2_4 32) 2147483647, .ge (.shr ylike2_4 32) (-2147483648), .at ylike2_19 true, .at ylike2_23 true, .at ylike2_24 true, .at ylike2_26 true, .at ylike2_25 false, .at ylike2_12 true, .at ylike2_13 true, .at ylike2_20 true, .is ylike2_2 2, .ge (.a 0) (-9223372036854775808), .le (.a 0) 9223372036854775807]) : LikeQ val :=
  leafK h (by kernel_rfl)

theorem like2_11 (val : Nat → Int) (h : Holds val [.ne ylike2_27 0, .is ylike2_28 0, .le (.wrap .i64 ylike2_3) 4294967295, .ge (.wrap .i64 ylike2_3) 0, .le (.shr ylike2_4 32) 2147483647, .ge (.shr ylike2_4 32) (-2147483648), .at ylike2_19 true, .at ylike2_23 true, .at ylike2_24 true, .at ylike2_26 true, .at ylike2_25 false, .at ylike2_12 true, .at ylike2_13 true, .at ylike2_20 true, .is ylike2_2 2, .ge (.a 0) (-9223372036854775808), .le (.a 0) 9223372036854775807]) : LikeQ val := by
  exfalso
  have hb : Holds val (List.drop 14 _) := fun f hf => h f (List.mem_of_mem_drop hf)
  have ha : Holds val (List.take 1 _) := fun f hf => h f (List.mem_of_mem_take hf)
  have hc : Holds val (List.take 2 _) := fun f hf => h f (List.mem_of_mem_take hf)
  simp only [List.take_succ_cons, List.take_zero, List.drop_succ_cons, List.drop_zero, Holds, List.forall_mem_cons, List.not_mem_nil, false_implies, implies_true, and_true, Fact.holds, SB.eval, SX.eval, ylike2_0, ylike2_1, ylike2_2, ylike2_3, ylike2_4, ylike2_5, ylike2_6, ylike2_7, ylike2_8, ylike2_9, ylike2_10, ylike2_11, ylike2_12, ylike2_13, ylike2_14, ylike2_15, ylike2_16, ylike2_17, ylike2_18, ylike2_19, ylike2_20, ylike2_21, ylike2_22, ylike2_23, ylike2_24, ylike2_25, ylike2_26, ylike2_27, ylike2_28, wrapU, wrapI, fdivP, tmodP, beq_iff_eq, beq_eq_false_iff_ne, decide_eq_true_eq, decide_eq_false_iff_not, ne_eq] at h ha hb hc
  simp only [Int.reducePow] at h ha hb hc
  first | (clear h hc; omega) | (clear h; omega) | omega

theorem like2_12 (val : Nat → Int) (h : Holds val [.ne ylike2_28 0, .le (.wrap .i64 ylike2_3) 4294967295, .ge (.wrap .i64 ylike2_3) 0, .le (.shr ylike2_4 32) 2147483647, .ge (.shr ylike2_4 32) (-2147483648), .at ylike2_19 true, .at ylike2_23 true, .at ylike2_24 true, .at ylike2_26 true, .at ylike2_25 false, .at ylike2_12 true, .at ylike2_13 true, .at ylike2_20 true, .is ylike2_2 2, .ge (.a 0) (-9223372036854775808), .le (.a 0) 9223372036854775807]) : LikeQ val := by
  exfalso
  have hb : Holds val (List.drop 13 _) := fun f hf => h f (List.mem_of_mem_drop hf)
  have ha : Holds val (List.take 1 _) := fun f hf => h f (List.mem_of_mem_take hf)
  have hc : Holds val (List.take 2 _) := fun f hf => h f (List.mem_of_mem_take hf)
  simp only [List.take_succ_cons, List.take_zero, List.drop_succ_cons, List.drop_zero, Holds, List.forall_mem_cons, List.not_mem_nil, false_implies, implies_true, and_true, Fact.holds, SB.eval, SX.eval, ylike2_0, ylike2_1, ylike2_2, ylike2_3, ylike2_4, ylike2_5, ylike2_6, ylike2_7, ylike2_8, ylike2_9, ylike2_10, ylike2_11, ylike2_12, ylike2_13, ylike2_14, ylike2_15, ylike2_16, ylike2_17, ylike2_18, ylike2_19, ylike2_20, ylike2_21, ylike2_22, ylike2_23, ylike2_24, ylike2_25, ylike2_26, ylike2_27, ylike2_28, wrapU, wrapI, fdivP, tmodP, beq_iff_eq, beq_eq_false_iff_ne, decide_eq_true_eq, decide_eq_false_iff_not, ne_eq] at h ha hb hc
  simp only [Int.reducePow] at h ha hb hc
  first | (clear h hc; omega) | (clear h; omega) | omega

theorem like2_13 (val : Nat → Int) (h : Holds val [.ge (.wrap .i64 ylike2_3) 4294967296, .ge (.wrap .i64 ylike2_3) 0, .le (.shr ylike2_4 32) 2147483647, .ge (.shr ylike2_4 32) (-2147483648), .at ylike2_19 true, .at ylike2_23 true, .at ylike2_24 true, .at ylike2_26 true, .at ylike2_25 false, .at ylike2_12 true, .at ylike2_13 true, .at ylike2_20 true, .is ylike2_2 2, .ge (.a 0) (-9223372036854775808), .le (.a 0) 9223372036854775807]) : LikeQ val := by
  exfalso
  have hb : Holds val (List.drop 12 _) := fun f hf => h f (List.mem_of_mem_drop hf)
  have ha : Holds val (List.take 1 _) := fun f hf => h f (List.mem_of_mem_take hf)
  have hc : Holds val (List.take 2 _) := fun f hf => h f (List.mem_of_mem_take hf)
  simp only [List.take_succ_cons, List.take_zero, List.drop_succ_cons, List.drop_zero, Holds, List.forall_mem_cons, List.not_mem_nil, false_implies, implies_true, and_true, Fact.holds, SB.eval, SX.eval, ylike2_0, ylike2_1, ylike2_2, ylike2_3, ylike2_4, ylike2_5, ylike2_6, ylike2_7, ylike2_8, ylike2_9, ylike2_10, ylike2_11, ylike2_12, ylike2_13, ylike2_14, ylike2_15, ylike2_16, ylike2_17, ylike2_18, ylike2_19, ylike2_20, ylike2_21, ylike2_22, ylike2_23, ylike2_24, ylike2_25, ylike2_26, ylike2_27, ylike2_28, wrapU, wrapI, fdivP, tmodP, beq_iff_eq, beq_eq_false_iff_ne, decide_eq_true_eq, decide_eq_false_iff_not, ne_eq] at h ha hb hc
  simp only [Int.reducePow] at h ha hb hc
  first | (clear h hc; omega) | (clear h; omega) | omega

theorem like2_14 (val : Nat → Int) (h : Holds val [.le (.wrap .i64 ylike2_3) (-1), .le (.shr ylike2_4 32) 2147483647, .ge (.shr ylike2_4 32) (-2147483648), .at ylike2_19 true, .at ylike2_23 true, .at ylike2_24 true, .at ylike2_26 true, .at ylike2_25 false, .at ylike2_12 true, .at ylike2_13 true, .at ylike2_20 true, .is ylike2_2 2, .ge (.a 0) (-9223372036854775808), .le (.a 0) 9223372036854775807]) : LikeQ val := by
  exfalso
  have hb : Holds val (List.drop 11 _) := fun f hf => h f (List.mem_of_mem_drop hf)
  have ha : Holds val (List.take 1 _) := fun f hf => h f (List.mem_of_mem_take hf)
  have hc : Holds val (List.take 2 _) := fun f hf => h f (List.mem_of_mem_take hf)
  simp only [List.take_succ_cons, List.take_zero, List.drop_succ_cons, List.drop_zero, Holds, List.forall_mem_cons, List.not_mem_nil, false_implies, implies_true, and_true, Fact.holds, SB.eval, SX.eval, ylike2_0, ylike2_1, ylike2_2, ylike2_3, ylike2_4, ylike2_5, ylike2_6, ylike2_7, ylike2_8, ylike2_9, ylike2_10, ylike2_11, ylike2_12, ylike2_13, ylike2_14, ylike2_15, ylike2_16, ylike2_17, ylike2_18, ylike2_19, ylike2_20, ylike2_21, ylike2_22, ylike2_23, ylike2_24, ylike2_25, ylike2_26, ylike2_27, ylike2_28, wrapU, wrapI, fdivP, tmodP, beq_iff_eq, beq_eq_false_iff_ne, decide_eq_true_eq, decide_eq_false_iff_not, ne_eq] at h ha hb hc
  simp only [Int.reducePow] at h ha hb hc
  first | (clear h hc; omega) | (clear h; omega) | omega

theorem like2_15 (val : Nat → Int) (h : Holds val [.ge (.shr ylike2_4 32) 2147483648, .ge (.shr ylike2_4 32) (-2147483648), .at ylike2_19 true, .at ylike2_23 true, .at ylike2_24 true, .at ylike2_26 true, .at ylike2_25 false, .at ylike2_12 true, .at ylike2_13 true, .at ylike2_20 true, .is ylike2_2 2, .ge (.a 0) (-9223372036854775808), .le (.a 0) 9223372036854775807]) : LikeQ val := by
  exfalso
  have hb : Holds val (List.drop 10 _) := fun f hf => h f (List.mem_of_mem_drop hf)
  have ha : Holds val (List.take 1 _) := fun f hf => h f (List.mem_of_mem_take hf)
  have hc : Holds val (List.take 2 _) := fun f hf => h f (List.mem_of_mem_take hf)
  simp only [List.take_succ_cons, List.take_zero, List.drop_succ_cons, List.drop_zero, Holds, List.forall_mem_cons, List.not_mem_nil, false_implies, implies_true, and_true, Fact.holds, SB.eval, SX.eval, ylike2_0, ylike2_1, ylike2_2, ylike2_3, ylike2_4, ylike2_5, ylike2_6, ylike2_7, ylike2_8, ylike2_9, ylike2_10, ylike2_11, ylike2_12, ylike2_13, ylike2_14, ylike2_15, ylike2_16, ylike2_17, ylike2_18, ylike2_19, ylike2_20, ylike2_21, ylike2_22, ylike2_23, ylike2_24, ylike2_25, ylike2_26, ylike2_27, ylike2_28, wrapU, wrapI, fdivP, tmodP, beq_iff_eq, beq_eq_false_iff_ne, decide_eq_true_eq, decide_eq_false_iff_not, ne_eq] at h ha hb hc
  simp only [Int.reducePow] at h ha hb hc
  first | (clear h hc; omega) | (clear h; omega) | omega

theorem like2_16 (val : Nat → Int) (h : Holds val [.le (.shr ylike2_4 32) (-2147483649), .at ylike2_19 true, .at ylike2_23 true, .at ylike2_24 true, .at ylike2_26 true, .at ylike2_25 false, .at ylike2_12 true, .at ylike2_13 true, .at ylike2_20 true, .is ylike2_2 2, .ge (.a 0) (-9223372036854775808), .le (.a 0) 9223372036854775807]) : LikeQ val := by
  exfalso
  have hb : Holds val (List.drop 9 _) := fun f hf => h f (List.mem_of_mem_drop hf)
  have ha : Holds val (List.take 1 _) := fun f hf => h f (List.mem_of_mem_take hf)
  have hc : Holds val (List.take 2 _) := fun f hf => h f (List.mem_of_mem_take hf)
  simp only [List.take_succ_cons, List.take_zero, List.drop_succ_cons, List.drop_zero, Holds, List.forall_mem_cons, List.not_mem_nil, false_implies, implies_true, and_true, Fact.holds, SB.eval, SX.eval, ylike2_0, ylike2_1, ylike2_2, ylike2_3, ylike2_4, ylike2_5, ylike2_6, ylike2_7, ylike2_8, ylike2_9, ylike2_10, ylike2_11, ylike2_12, ylike2_13, ylike2_14, ylike2_15, ylike2_16, ylike2_17, ylike2_18, ylike2_19, ylike2_20, ylike2_21, ylike2_22, ylike2_23, ylike2_24, ylike2_25, ylike2_26, ylike2_27, ylike2_28, wrapU, wrapI, fdivP, tmodP, beq_iff_eq, beq_eq_false_iff_ne, decide_eq_true_eq, decide_eq_false_iff_not, ne_eq] at h ha hb hc
  simp only [Int.reducePow] at h ha hb hc
  first | (clear h hc; omega) | (clear h; omega) | omega

theorem like2_17 (val : Nat → Int) (h : Holds val [.at ylike2_19 false, .at ylike2_23 true, .at ylike2_24 true, .at ylike2_26 true, .at ylike2_25 false, .at ylike2_12 true, .at ylike2_13 true, .at ylike2_20 true, .is ylike2_2 2, .ge (.a 0) (-9223372036854775808), .le (.a 0) 9223372036854775807]) : LikeQ val := by
  exfalso
  have hb : Holds val (List.drop 8 _) := fun f hf => h f (List.mem_of_mem_drop hf)
  have ha : Holds val (List.take 1 _) := fun f hf => h f (List.mem_of_mem_take hf)
  have hc : Holds val (List.take 2 _) := fun f hf => h f (List.mem_of_mem_take hf)
  simp only [List.take_succ_cons, List.take_zero, List.drop_succ_cons, List.drop_zero, Holds, List.forall_mem_cons, List.not_mem_nil, false_implies, implies_true, and_true, Fact.holds, SB.eval, SX.eval, ylike2_0, ylike2_1, ylike2_2, ylike2_3, ylike2_4, ylike2_5, ylike2_6, ylike2_7, ylike2_8, ylike2_9, ylike2_10, ylike2_11, ylike2_12, ylike2_13, ylike2_14, ylike2_15, ylike2_16, ylike2_17, ylike2_18, ylike2_19, ylike2_20, ylike2_21, ylike2_22, ylike2_23, ylike2_24, ylike2_25, ylike2_26, ylike2_27, ylike2_28, wrapU, wrapI, fdivP, tmodP, beq_iff_eq, beq_eq_false_iff_ne, decide_eq_true_eq, decide_eq_false_iff_not, ne_eq] at h ha hb hc
  simp only [Int.reducePow] at h ha hb hc
  first | (clear h hc; omega) | (clear h; omega) | omega

theorem like2_18 (val : Nat → Int) (h : Holds val [.at ylike2_23 false, .at ylike2_24 true, .at ylike2_26 true, .at ylike2_25 false, .at ylike2_12 true, .at ylike2_13 true, .at ylike2_20 true, .is ylike2_2 2, .ge (.a 0) (-9223372036854775808), .le (.a 0) 9223372036854775807]) : LikeQ val := by
  exfalso
  have hb : Holds val (List.drop 7 _) := fun f hf => h f (List.mem_of_mem_drop hf)
  have ha : Holds val (List.take 1 _) := fun f hf => h f (List.mem_of_mem_take hf)
  have hc : Holds val (List.take 2 _) := fun f hf => h f (List.mem_of_mem_take hf)
  simp only [List.take_succ_cons, List.take_zero, List.drop_succ_cons, List.drop_zero, Holds, List.forall_mem_cons, List.not_mem_nil, false_implies, implies_true, and_true, Fact.holds, SB.eval, SX.eval, ylike2_0, ylike2_1, ylike2_2, ylike2_3, ylike2_4, ylike2_5, ylike2_6, ylike2_7, ylike2_8, ylike2_9, ylike2_10, ylike2_11, ylike2_12, ylike2_13, ylike2_14, ylike2_15, ylike2_16, ylike2_17, ylike2_18, ylike2_19, ylike2_20, ylike2_21, ylike2_22, ylike2_23, ylike2_24, ylike2_25, ylike2_26, ylike2_27, ylike2_28, wrapU, wrapI, fdivP, tmodP, beq_iff_eq, beq_eq_false_iff_ne, decide_eq_true_eq, decide_eq_false_iff_not, ne_eq] at h ha hb hc
  simp only [Int.reducePow] at h ha hb hc
  first | (clear h hc; omega) | (clear h; omega) | omega

theorem like2_19 (val : Nat → Int) (h : Holds val [.at ylike2_24 false, .at ylike2_26 true, .at ylike2_25 false, .at ylike2_12 true, .at ylike2_13 true, .at ylike2_20 true, .is ylike2_2 2, .ge (.a 0) (-9223372036854775808), .le (.a 0) 9223372036854775807]) : LikeQ val := by
  exfalso
  have hb : Holds val (List.drop 6 _) := fun f hf => h f (List.mem_of_mem_drop hf)
  have ha : Holds val (List.take 1 _) := fun f hf => h f (List.mem_of_mem_take hf)
  have hc : Holds val (List.take 2 _) := fun f hf => h f (List.mem_of_mem_take hf)
  simp only [List.take_succ_cons, List.take_zero, List.drop_succ_cons, List.drop_zero, Holds, List.forall_mem_cons, List.not_mem_nil, false_implies, implies_true, and_true, Fact.holds, SB.eval, SX.eval, ylike2_0, ylike2_1, ylike2_2, ylike2_3, ylike2_4, ylike2_5, ylike2_6, ylike2_7, ylike2_8, ylike2_9, ylike2_10, ylike2_11, ylike2_12, ylike2_13, ylike2_14, ylike2_15, ylike2_16, ylike2_17, ylike2_18, ylike2_19, ylike2_20, ylike2_21, ylike2_22, ylike2_23, ylike2_24, ylike2_25, ylike2_26, ylike2_27, ylike2_28, wrapU, wrapI, fdivP, tmodP, beq_iff_eq, beq_eq_false_iff_ne, decide_eq_true_eq, decide_eq_false_iff_not, ne_eq] at h ha hb hc
  simp only [Int.reducePow] at h ha hb hc
  first | (clear h hc; omega) | (clear h; omega) | omega

theorem like2_20 (val : Nat → Int) (h : Holds val [.is (.a 0) 0, .is (.wrap .i64 ylike2_3) 0, .at ylike2_26 false, .at ylike2_25 false, .at ylike2_12 true, .at ylike2_13 true, .at ylike2_20 true, .is ylike2_2 2, .ge (.a 0) (-9223372036854775808), .le (.a 0) 9223372036854775807]) : LikeQ val :=
  leafK h (by kernel_rfl)

theorem like2_21 (val : Nat → Int) (h : Holds val [.le (.a 0) (-2147483649), .is (.shr ylike2_4 32) 0, .is ylike2_7 0, .at ylike2_9 true, .ne (.a 0) 0, .is (.wrap .i64 ylike2_3) 0, .at ylike2_26 false, .at ylike2_25 false, .at ylike2_12 true, .at ylike2_13 true, .at ylike2_20 true, .is ylike2_2 2, .ge (.a 0) (-9223372036854775808), .le (.a 0) 9223372036854775807]) : LikeQ val :=
  leafK h (by kernel_rfl)

theorem like2_22 (val : Nat → Int) (h : Holds val [.ge (.a 0) 4294967296, .ge (.a 0) (-2147483648), .is (.shr ylike2_4 32) 0, .is ylike2_7 0, .at ylike2_9 true, .ne (.a 0) 0, .is (.wrap .i64 ylike2_3) 0, .at ylike2_26 false, .at ylike2_25 false, .at ylike2_12 true, .at ylike2_13 true, .at ylike2_20 true, .is ylike2_2 2, .ge (.a 0) (-9223372036854775808), .le (.a 0) 9223372036854775807]) : LikeQ val :=
  leafK h (by kernel_rfl)

theorem like2_23 (val : Nat → Int) (h : Holds val [.le (.a 0) 4294967295, .ge (.a 0) (-2147483648), .is (.shr ylike2_4 32) 0, .is ylike2_7 0, .at ylike2_9 true, .ne (.a 0) 0, .is (.wrap .i64 ylike2_3) 0, .at ylike2_26 false, .at ylike2_25 false, .at ylike2_12 true, .at ylike2_13 true, .at ylike2_20 true, .is ylike2_2 2, .ge (.a 0) (-9223372036854775808), .le (.a 0) 9223372036854775807]) : LikeQ val := by
  exfalso
  have hb : Holds val (List.drop 12 _) := fun f hf => h f (List.mem_of_mem_drop hf)
  have ha : Holds val (List.take 1 _) := fun f hf => h f (List.mem_of_mem_take hf)
  have hc : Holds val (List.take 2 _) := fun f hf => h f (List.mem_of_mem_take hf)
  simp only [List.take_succ_cons, List.take_zero, List.drop_succ_cons, List.drop_zero, Holds, List.forall_mem_cons, List.not_mem_nil, false_implies, implies_true, and_true, Fact.holds, SB.eval, SX.eval, ylike2_0, ylike2_1, ylike2_2, ylike2_3, ylike2_4, ylike2_5, ylike2_6, ylike2_7, ylike2_8, ylike2_9, ylike2_10, ylike2_11, ylike2_12, ylike2_13, ylike2_14, ylike2_15, ylike2_16, ylike2_17, ylike2_18, ylike2_19, ylike2_20, ylike2_21, ylike2_22, ylike2_23, ylike2_24, ylike2_25, ylike2_26, ylike2_27, ylike2_28, wrapU, wrapI, fdivP, tmodP, beq_iff_eq, beq_eq_false_iff_ne, decide_eq_true_eq, decide_eq_false_iff_not, ne_eq] at h ha hb hc
  simp only [Int.reducePow] at h ha hb hc
  first | (clear h hc; omega) | (clear h; omega) | omega

theorem like2_24 (val : Nat → Int) (h : Holds val [.at ylike2_14 true, .ne (.shr ylike2_4 32) 0, .is ylike2_7 0, .at ylike2_9 true, .ne (.a 0) 0, .is (.wrap .i64 ylike2_3) 0, .at ylike2_26 false, .at ylike2_25 false, .at ylike2_12 true, .at ylike2_13 true, .at ylike2_20 true, .is ylike2_2 2, .ge (.a 0) (-9223372036854775808), .le (.a 0) 9223372036854775807]) : LikeQ val := by
  exfalso
  have hb : Holds val (List.drop 11 _) := fun f hf => h f (List.mem_of_mem_drop hf)
  have ha : Holds val (List.take 1 _) := fun f hf => h f (List.mem_of_mem_take hf)
  have hc : Holds val (List.take 2 _) := fun f hf => h f (List.mem_of_mem_take hf)
  simp only [List.take_succ_cons, List.take_zero, List.drop_succ_cons, List.drop_zero, Holds, List.forall_mem_cons, List.not_mem_nil, false_implies, implies_true, and_true, Fact.holds, SB.eval, SX.eval, ylike2_0, ylike2_1, ylike2_2, ylike2_3, ylike2_4, ylike2_5, ylike2_6, ylike2_7, ylike2_8, ylike2_9, ylike2_10, ylike2_11, ylike2_12, ylike2_13, ylike2_14, ylike2_15, ylike2_16, ylike2_17, ylike2_18, ylike2_19, ylike2_20, ylike2_21, ylike2_22, ylike2_23, ylike2_24, ylike2_25, ylike2_26, ylike2_27, ylike2_28, wrapU, wrapI, fdivP, tmodP, beq_iff_eq, beq_eq_false_iff_ne, decide_eq_true_eq, decide_eq_false_iff_not, ne_eq] at h ha hb hc
  simp only [Int.reducePow] at h ha hb hc
  first | (clear h hc; omega) | (clear h; omega) | omega

theorem like2_25 (val : Nat → Int) (h : Holds val [.at ylike2_14 false, .ne (.shr ylike2_4 32) 0, .is ylike2_7 0, .at ylike2_9 true, .ne (.a 0) 0, .is (.wrap .i64 ylike2_3) 0, .at ylike2_26 false, .at ylike2_25 false, .at ylike2_12 true, .at ylike2_13 true, .at ylike2_20 true, .is ylike2_2 2, .ge (.a 0) (-9223372036854775808), .le (.a 0) 9223372036854775807]) : LikeQ val := by
  exfalso
  have hb : Holds val (List.drop 11 _) := fun f hf => h f (List.mem_of_mem_drop hf)
  have ha : Holds val (List.take 1 _) := fun f hf => h f (List.mem_of_mem_take hf)
  have hc : Holds val (List.take 2 _) := fun f hf => h f (List.mem_of_mem_take hf)
  simp only [List.take_succ_cons, List.take_zero, List.drop_succ_cons, List.drop_zero, Holds, List.forall_mem_cons, List.not_mem_nil, false_implies, implies_true, and_true, Fact.holds, SB.eval, SX.eval, ylike2_0, ylike2_1, ylike2_2, ylike2_3, ylike2_4, ylike2_5, ylike2_6, ylike2_7, ylike2_8, ylike2_9, ylike2_10, ylike2_11, ylike2_12, ylike2_13, ylike2_14, ylike2_15, ylike2_16, ylike2_17, ylike2_18, ylike2_19, ylike2_20, ylike2_21, ylike2_22, ylike2_23, ylike2_24, ylike2_25, ylike2_26, ylike2_27, ylike2_28, wrapU, wrapI, fdivP, tmodP, beq_iff_eq, beq_eq_false_iff_ne, decide_eq_true_eq, decide_eq_false_iff_not, ne_eq] at h ha hb hc
  simp only [Int.reducePow] at h ha hb hc
  first | (clear h hc; omega) | (clear h; omega) | omega

theorem like2_26 (val : Nat → Int) (h : Holds val [.ne ylike2_7 0, .at ylike2_9 true, .ne (.a 0) 0, .is (.wrap .i64 ylike2_3) 0, .at ylike2_26 false, .at ylike2_25 false, .at ylike2_12 true, .at ylike2_13 true, .at ylike2_20 true, .is ylike2_2 2, .ge (.a 0) (-9223372036854775808), .le (.a 0) 9223372036854775807]) : LikeQ val := by
  exfalso
  have hb : Holds val (List.drop 9 _) := fun f hf => h f (List.mem_of_mem_drop hf)
  have ha : Holds val (List.take 1 _) := fun f hf => h f (List.mem_of_mem_take hf)
  have hc : Holds val (List.take 2 _) := fun f hf => h f (List.mem_of_mem_take hf)
  simp only [List.take_succ_cons, List.take_zero, List.drop_succ_cons, List.drop_zero, Holds, List.forall_mem_cons, List.not_mem_nil, false_implies, implies_true, and_true, Fact.holds, SB.eval, SX.eval, ylike2_0, ylike2_1, ylike2_2, ylike2_3, ylike2_4, ylike2_5, ylike2_6, ylike2_7, ylike2_8, ylike2_9, ylike2_10, ylike2_11, ylike2_12, ylike2_13, ylike2_14, ylike2_15, ylike2_16, ylike2_17, ylike2_18, ylike2_19, ylike2_20, ylike2_21, ylike2_22, ylike2_23, ylike2_24, ylike2_25, ylike2_26, ylike2_27, ylike2_28, wrapU, wrapI, fdivP, tmodP, beq_iff_eq, beq_eq_false_iff_ne, decide_eq_true_eq, decide_eq_false_iff_not, ne_eq] at h ha hb hc
  simp only [Int.reducePow] at h ha hb hc
  first | (clear h hc; omega) | (clear h; omega) | omega

theorem like2_27 (val : Nat → Int) (h : Holds val [.le (.a 0) (-2147483649), .at ylike2_9 false, .ne (.a 0) 0, .is (.wrap .i64 ylike2_3) 0, .at ylike2_26 false, .at ylike2_25 false, .at ylike2_12 true, .at ylike2_13 true, .at ylike2_20 true, .is ylike2_2 2, .ge (.a 0) (-9223372036854775808), .le (.a 0) 9223372036854775807]) : LikeQ val :=
  leafK h (by kernel_rfl)

theorem like2_28 (val : Nat → Int) (h : Holds val [.ge (.a 0) 4294967296, .ge (.a 0) (-2147483648), .at ylike2_9 false, .ne (.a 0) 0, .is (.wrap .i64 ylike2_3) 0, .at ylike2_26 false, .at ylike2_25 false, .at ylike2_12 true, .at ylike2_13 true, .at ylike2_20 true, .is ylike2_2 2, .ge (.a 0) (-9223372036854775808), .le (.a 0) 9223372036854775807]) : LikeQ val :=
  leafK h (by kernel_rfl)

theorem like2_29 (val : Nat → Int) (h : Holds val [.le (.a 0) 4294967295, .ge (.a 0) (-2147483648), .at ylike2_9 false, .ne (.a 0) 0, .is (.wrap .i64 ylike2_3) 0, .at ylike2_26 false, .at ylike2_25 false, .at ylike2_12 true, .at ylike2_13 true, .at ylike2_20 true, .is ylike2_2 2, .ge (.a 0) (-9223372036854775808), .le (.a 0) 9223372036854775807]) : LikeQ val := by
  exfalso
  have hb : Holds val (List.drop 10 _) := fun f hf => h f (List.mem_of_mem_drop hf)
  have ha : Holds val (List.take 1 _) := fun f hf => h f (List.mem_of_mem_take hf)
  have hc : Holds val (List.take 2 _) := fun f hf => h f (List.mem_of_mem_take hf)
  simp only [List.take_succ_cons, List.take_zero, List.drop_succ_cons, List.drop_zero, Holds, List.forall_mem_cons, List.not_mem_nil, false_implies, implies_true, and_true, Fact.holds, SB.eval, SX.eval, ylike2_0, ylike2_1, ylike2_2, ylike2_3, ylike2_4, ylike2_5, ylike2_6, ylike2_7, ylike2_8, ylike2_9, ylike2_10, ylike2_11, ylike2_12, ylike2_13, ylike2_14, ylike2_15, ylike2_16, ylike2_17, ylike2_18, ylike2_19, ylike2_20, ylike2_21, ylike2_22, ylike2_23, ylike2_24, ylike2_25, ylike2_26, ylike2_27, ylike2_28, wrapU, wrapI, fdivP, tmodP, beq_iff_eq, beq_eq_false_iff_ne, decide_eq_true_eq, decide_eq_false_iff_not, ne_eq] at h ha hb hc
  simp only [Int.reducePow] at h ha hb hc
  first | (clear h hc; omega) | (clear h; omega) | omega

theorem like2_30 (val : Nat → Int) (h : Holds val [.ne (.wrap .i64 ylike2_3) 0, .at ylike2_26 false, .at ylike2_25 false, .at ylike2_12 true, .at ylike2_13 true, .at ylike2_20 true, .is ylike2_2 2, .ge (.a 0) (-9223372036854775808), .le (.a 0) 9223372036854775807]) : LikeQ val := by
  exfalso
  have hb : Holds val (List.drop 6 _) := fun f hf => h f (List.mem_of_mem_drop hf)
  have ha : Holds val (List.take 1 _) := fun f hf => h f (List.mem_of_mem_take hf)
  have hc : Holds val (List.take 2 _) := fun f hf => h f (List.mem_of_mem_take hf)
  simp only [List.take_succ_cons, List.take_zero, List.drop_succ_cons, List.drop_zero, Holds, List.forall_mem_cons, List.not_mem_nil, false_implies, implies_true, and_true, Fact.holds, SB.eval, SX.eval, ylike2_0, ylike2_1, ylike2_2, ylike2_3, ylike2_4, ylike2_5, ylike2_6, ylike2_7, ylike2_8, ylike2_9, ylike2_10, ylike2_11, ylike2_12, ylike2_13, ylike2_14, ylike2_15, ylike2_16, ylike2_17, ylike2_18, ylike2_19, ylike2_20, ylike2_21, ylike2_22, ylike2_23, ylike2_24, ylike2_25, ylike2_26, ylike2_27, ylike2_28, wrapU, wrapI, fdivP, tmodP, beq_iff_eq, beq_eq_false_iff_ne, decide_eq_true_eq, decide_eq_false_iff_not, ne_eq] at h ha hb hc
  simp only [Int.reducePow] at h ha hb hc
  first | (clear h hc; omega) | (clear h; omega) | omega

theorem like2_31 (val : Nat → Int) (h : Holds val [.at ylike2_12 false, .at ylike2_13 true, .at ylike2_20 true, .is ylike2_2 2, .ge (.a 0) (-9223372036854775808), .le (.a 0) 9223372036854775807]) : LikeQ val := by
  exfalso
  have hb : Holds val (List.drop 3 _) := fun f hf => h f (List.mem_of_mem_drop hf)
  have ha : Holds val (List.take 1 _) := fun f hf => h f (List.mem_of_mem_take hf)
  have hc : Holds val (List.take 2 _) := fun f hf => h f (List.mem_of_mem_take hf)
  simp only [List.take_succ_cons, List.take_zero, List.drop_succ_cons, List.drop_zero, Holds, List.forall_mem_cons, List.not_mem_nil, false_implies, implies_true, and_true, Fact.holds, SB.eval, SX.eval, ylike2_0, ylike2_1, ylike2_2, ylike2_3, ylike2_4, ylike2_5, ylike2_6, ylike2_7, ylike2_8, ylike2_9, ylike2_10, ylike2_11, ylike2_12, ylike2_13, ylike2_14, ylike2_15, ylike2_16, ylike2_17, ylike2_18, ylike2_19, ylike2_20, ylike2_21, ylike2_22, ylike2_23, ylike2_24, ylike2_25, ylike2_26, ylike2_27, ylike2_28, wrapU, wrapI, fdivP, tmodP, beq_iff_eq, beq_eq_false_iff_ne, decide_eq_true_eq, decide_eq_false_iff_not, ne_eq] at h ha hb hc
  simp only [Int.reducePow] at h ha hb hc
  first | (clear h hc; omega) | (clear h; omega) | omega

theorem like2_32 (val : Nat → Int) (h : Holds val [.is ylike2_27 0, .is ylike2_28 0, .le (.wrap .i64 ylike2_3) 4294967295, .ge (.wrap .i64 ylike2_3) 0, .le (.shr ylike2_4 32) 2147483647, .ge (.shr ylike2_4 32) (-2147483648), .at ylike2_19 true, .at ylike2_23 true, .at ylike2_24 true, .at ylike2_25 true, .at ylike2_12 true, .at ylike2_14 true, .at ylike2_13 false, .at ylike2_20 true, .is ylike2_2 2, .ge (.a 0) (-9223372036854775808), .le (.a 0) 9223372036854775807]) : LikeQ val :=
  leafK h (by kernel_rfl)

theorem like2_33 (val : Nat → Int) (h : Holds val [.ne ylike2_27 0, .is ylike2_28 0, .le (.wrap .i64 ylike2_3) 4294967295, .ge (.wrap .i64 ylike2_3) 0, .le (.shr ylike2_4 32) 2147483647, .ge (.shr ylike2_4 32) (-2147483648), .at ylike2_19 true, .at ylike2_23 true, .at ylike2_24 true, .at ylike2_25 true, .at ylike2_12 true, .at ylike2_14 true, .at ylike2_13 false, .at ylike2_20 true, .is ylike2_2 2, .ge (.a 0) (-9223372036854775808), .le (.a 0) 9223372036854775807]) : LikeQ val := by
  exfalso
  have hb : Holds val (List.drop 14 _) := fun f hf => h f (List.mem_of_mem_drop hf)
  have ha : Holds val (List.take 1 _) := fun f hf => h f (List.mem_of_mem_take hf)
  have hc : Holds val (List.take 2 _) := fun f hf => h f (List.mem_of_mem_take hf)
  simp only [List.take_succ_cons, List.take_zero, List.drop_succ_cons, List.drop_zero, Holds, List.forall_mem_cons, List.not_mem_nil, false_implies, implies_true, and_true, Fact.holds, SB.eval, SX.eval, ylike2_0, ylike2_1, ylike2_2, ylike2_3, ylike2_4, ylike2_5, ylike2_6, ylike2_7, ylike2_8, ylike2_9, ylike2_10, ylike2_11, ylike2_12, ylike2_13, ylike2_14, ylike2_15, ylike2_16, ylike2_17, ylike2_18, ylike2_19, ylike2_20, ylike2_21, ylike2_22, ylike2_23, ylike2_24, ylike2_25, ylike2_26, ylike2_27, ylike2_28, wrapU, wrapI, fdivP, tmodP, beq_iff_eq, beq_eq_false_iff_ne, decide_eq_true_eq, decide_eq_false_iff_not, ne_eq] at h ha hb hc
  simp only [Int.reducePow] at h ha hb hc
  first | (clear h hc; omega) | (clear h; omega) | omega

theorem like2_34 (val : Nat → Int) (h : Holds val [.ne ylike2_28 0, .le (.wrap .i64 ylike2_3) 4294967295, .ge (.wrap .i64 ylike2_3) 0, .le (.shr ylike2_4 32) 2147483647, .ge (.shr ylike2_4 32) (-2147483648), .at ylike2_19 true, .at ylike2_23 true, .at ylike2_24 true, .at ylike2_25 true, .at ylike2_12 true, .at ylike2_14 true, .at ylike2_13 false, .at ylike2_20 true, .is ylike2_2 2, .ge (.a 0) (-9223372036854775808), .le (.a 0) 9223372036854775807]) : LikeQ val := by
  exfalso
  have hb : Holds val (List.drop 13 _) := fun f hf => h f (List.mem_of_mem_drop hf)
  have ha : Holds val (List.take 1 _) := fun f hf => h f (List.mem_of_mem_take hf)
  have hc : Holds val (List.take 2 _) := fun f hf => h f (List.mem_of_mem_take hf)
  simp only [List.take_succ_cons, List.take_zero, List.drop_succ_cons, List.drop_zero, Holds, List.forall_mem_cons, List.not_mem_nil, false_implies, implies_true, and_true, Fact.holds, SB.eval, SX.eval, ylike2_0, ylike2_1, ylike2_2, ylike2_3, ylike2_4, ylike2_5, ylike2_6, ylike2_7, ylike2_8, ylike2_9, ylike2_10, ylike2_11, ylike2_12, ylike2_13, ylike2_14, ylike2_15, ylike2_16, ylike2_17, ylike2_18, ylike2_19, ylike2_20, ylike2_21, ylike2_22, ylike2_23, ylike2_24, ylike2_25, ylike2_26, ylike2_27, ylike2_28, wrapU, wrapI, fdivP, tmodP, beq_iff_eq, beq_eq_false_iff_ne, decide_eq_true_eq, decide_eq_false_iff_not, ne_eq] at h ha hb hc
  simp only [Int.reducePow] at h ha hb hc
  first | (clear h hc; omega) | (clear h; omega) | omega

theorem like2_35 (val : Nat → Int) (h : Holds val [.ge (.wrap .i64 ylike2_3) 4294967296, .ge (.wrap .i64 ylike2_3) 0, .le (.shr ylike2_4 32) 2147483647, .ge (.shr ylike2_4 32) (-2147483648), .at ylike2_19 true, .at ylike2_23 true, .at ylike2_24 true, .at ylike2_25 true, .at ylike2_12 true, .at ylike2_14 true, .at ylike2_13 false, .at ylike2_20 true, .is ylike2_2 2, .ge (.a 0) (-9223372036854775808), .le (.a 0) 9223372036854775807]) : LikeQ val := by
  exfalso
  have hb : Holds val (List.drop 12 _) := fun f hf => h f (List.mem_of_mem_drop hf)
  have ha : Holds val (List.take 1 _) := fun f hf => h f (List.mem_of_mem_take hf)
  have hc : Holds val (List.take 2 _) := fun f hf => h f (List.mem_of_mem_take hf)
  simp only [List.take_succ_cons, List.take_zero, List.drop_succ_cons, List.drop_zero, Holds, List.forall_mem_cons, List.not_mem_nil, false_implies, implies_true, and_true, Fact.holds, SB.eval, SX.eval, ylike2_0, ylike2_1, ylike2_2, ylike2_3, ylike2_4, ylike2_5, ylike2_6, ylike2_7, ylike2_8, ylike2_9, ylike2_10, ylike2_11, ylike2_12, ylike2_13, ylike2_14, ylike2_15, ylike2_16, ylike2_17, ylike2_18, ylike2_19, ylike2_20, ylike2_21, ylike2_22, ylike2_23, ylike2_24, ylike2_25, ylike2_26, ylike2_27, ylike2_28, wrapU, wrapI, fdivP, tmodP, beq_iff_eq, beq_eq_false_iff_ne, decide_eq_true_eq, decide_eq_false_iff_not, ne_eq] at h ha hb hc
  simp only [Int.reducePow] at h ha hb hc
  first | (clear h hc; omega) | (clear h; omega) | omega

theorem like2_36 (val : Nat → Int) (h : Holds val [.le (.wrap .i64 ylike2_3) (-1), .le (.shr ylike2_4 32) 2147483647, .ge (.shr ylike2_4 32) (-2147483648), .at ylike2_19 true, .at ylike2_23 true, .at ylike2_24 true, .at ylike2_25 true, .at ylike2_12 true, .at ylike2_14 true, .at ylike2_13 false, .at ylike2_20 true, .is ylike2_2 2, .ge (.a 0) (-9223372036854775808), .le (.a 0) 9223372036854775807]) : LikeQ val := by
  exfalso
  have hb : Holds val (List.drop 11 _) := fun f hf => h f (List.mem_of_mem_drop hf)
  have ha : Holds val (List.take 1 _) := fun f hf => h f (List.mem_of_mem_take hf)
  have hc : Holds val (List.take 2 _) := fun f hf => h f (List.mem_of_mem_take hf)
  simp only [List.take_succ_cons, List.take_zero, List.drop_succ_cons, List.drop_zero, Holds, List.forall_mem_cons, List.not_mem_nil, false_implies, implies_true, and_true, Fact.holds, SB.eval, SX.eval, ylike2_0, ylike2_1, ylike2_2, ylike2_3, ylike2_4, ylike2_5, ylike2_6, ylike2_7, ylike2_8, ylike2_9, ylike2_10, ylike2_11, ylike2_12, ylike2_13, ylike2_14, ylike2_15, ylike2_16, ylike2_17, ylike2_18, ylike2_19, ylike2_20, ylike2_21, ylike2_22, ylike2_23, ylike2_24, ylike2_25, ylike2_26, ylike2_27, ylike2_28, wrapU, wrapI, fdivP, tmodP, beq_iff_eq, beq_eq_false_iff_ne, decide_eq_true_eq, decide_eq_false_iff_not, ne_eq] at h ha hb hc
  simp only [Int.reducePow] at h ha hb hc
  first | (clear h hc; omega) | (clear h; omega) | omega

theorem like2_37 (val : Nat → Int) (h : Holds val [.ge (.shr ylike2_4 32) 2147483648, .ge (.shr ylike2_4 32) (-2147483648), .at ylike2_19 true, .at ylike2_23 true, .at ylike2_24 true, .at ylike2_25 true, .at ylike2_12 true, .at ylike2_14 true, .at ylike2_13 false, .at ylike2_20 true, .is ylike2_2 2, .ge (.a 0) (-9223372036854775808), .le (.a 0) 9223372036854775807]) : LikeQ val := by
  exfalso
  have hb : Holds val (List.drop 10 _) := fun f hf => h f (List.mem_of_mem_drop hf)
  have ha : Holds val (List.take 1 _) := fun f hf => h f (List.mem_of_mem_take hf)
  have hc : Holds val (List.take 2 _) := fun f hf => h f (List.mem_of_mem_take hf)
  simp only [List.take_succ_cons, List.take_zero, List.drop_succ_cons, List.drop_zero, Holds, List.forall_mem_cons, List.not_mem_nil, false_implies, implies_true, and_true, Fact.holds, SB.eval, SX.eval, ylike2_0, ylike2_1, ylike2_2, ylike2_3, ylike2_4, ylike2_5, ylike2_6, ylike2_7, ylike2_8, ylike2_9, ylike2_10, ylike2_11, ylike2_12, ylike2_13, ylike2_14, ylike2_15, ylike2_16, ylike2_17, ylike2_18, ylike2_19, ylike2_20, ylike2_21, ylike2_22, ylike2_23, ylike2_24, ylike2_25, ylike2_26, ylike2_27, ylike2_28, wrapU, wrapI, fdivP, tmodP, beq_iff_eq, beq_eq_false_iff_ne, decide_eq_true_eq, decide_eq_false_iff_not, ne_eq] at h ha hb hc
  simp only [Int.reducePow] at h ha hb hc
  first | (clear h hc; omega) | (clear h; omega) | omega

theorem like2_38 (val : Nat → Int) (h : Holds val [.le (.shr ylike2_4 32) (-2147483649), .at ylike2_19 true, .at ylike2_23 true, .at ylike2_24 true, .at ylike2_25 true, .at ylike2_12 true, .at ylike2_14 true, .at ylike2_13 false, .at ylike2_20 true, .is ylike2_2 2, .ge (.a 0) (-9223372036854775808), .le (.a 0) 9223372036854775807]) : LikeQ val := by
  exfalso
  have hb : Holds val (List.drop 9 _) := fun f hf => h f (List.mem_of_mem_drop hf)
  have ha : Holds val (List.take 1 _) := fun f hf => h f (List.mem_of_mem_take hf)
  have hc : Holds val (List.take 2 _) := fun f hf => h f (List.mem_of_mem_take hf)
  simp only [List.take_succ_cons, List.take_zero, List.drop_succ_cons, List.drop_zero, Holds, List.forall_mem_cons, List.not_mem_nil, false_implies, implies_true, and_true, Fact.holds, SB.eval, SX.eval, ylike2_0, ylike2_1, ylike2_2, ylike2_3, ylike2_4, ylike2_5, ylike2_6, ylike2_7, ylike2_8, ylike2_9, ylike2_10, ylike2_11, ylike2_12, ylike2_13, ylike2_14, ylike2_15, ylike2_16, ylike2_17, ylike2_18, ylike2_19, ylike2_20, ylike2_21, ylike2_22, ylike2_23, ylike2_24, ylike2_25, ylike2_26, ylike2_27, ylike2_28, wrapU, wrapI, fdivP, tmodP, beq_iff_eq, beq_eq_false_iff_ne, decide_eq_true_eq, decide_eq_false_iff_not, ne_eq] at h ha hb hc
  simp only [Int.reducePow] at h ha hb hc
  first | (clear h hc; omega) | (clear h; omega) | omega

theorem like2_39 (val : Nat → Int) (h : Holds val [.at ylike2_19 false, .at ylike2_23 true, .at ylike2_24 true, .at ylike2_25 true, .at ylike2_12 true, .at ylike2_14 true, .at ylike2_13 false, .at ylike2_20 true, .is ylike2_2 2, .ge (.a 0) (-9223372036854775808), .le (.a 0) 9223372036854775807]) : LikeQ val := by
  exfalso
  have hb : Holds val (List.drop 8 _) := fun f hf => h f (List.mem_of_mem_drop hf)
  have ha : Holds val (List.take 1 _) := fun f hf => h f (List.mem_of_mem_take hf)
  have hc : Holds val (List.take 2 _) := fun f hf => h f (List.mem_of_mem_take hf)
  simp only [List.take_succ_cons, List.take_zero, List.drop_succ_cons, List.drop_zero, Holds, List.forall_mem_cons, List.not_mem_nil, false_implies, implies_true, and_true, Fact.holds, SB.eval, SX.eval, ylike2_0, ylike2_1, ylike2_2, ylike2_3, ylike2_4, ylike2_5, ylike2_6, ylike2_7, ylike2_8, ylike2_9, ylike2_10, ylike2_11, ylike2_12, ylike2_13, ylike2_14, ylike2_15, ylike2_16, ylike2_17, ylike2_18, ylike2_19, ylike2_20, ylike2_21, ylike2_22, ylike2_23, ylike2_24, ylike2_25, ylike2_26, ylike2_27, ylike2_28, wrapU, wrapI, fdivP, tmodP, beq_iff_eq, beq_eq_false_iff_ne, decide_eq_true_eq, decide_eq_false_iff_not, ne_eq] at h ha hb hc
  simp only [Int.reducePow] at h ha hb hc
  first | (clear h hc; omega) | (clear h; omega) | omega

theorem like2_40 (val : Nat → Int) (h : Holds val [.at ylike2_23 false, .at ylike2_24 true, .at ylike2_25 true, .at ylike2_12 true, .at ylike2_14 true, .at ylike2_13 false, .at ylike2_20 true, .is ylike2_2 2, .ge (.a 0) (-9223372036854775808), .le (.a 0) 9223372036854775807]) : LikeQ val := by
  exfalso
  have hb : Holds val (List.drop 7 _) := fun f hf => h f (List.mem_of_mem_drop hf)
  have ha : Holds val (List.take 1 _) := fun f hf => h f (List.mem_of_mem_take hf)
  have hc : Holds val (List.take 2 _) := fun f hf => h f (List.mem_of_mem_take hf)
  simp only [List.take_succ_cons, List.take_zero, List.drop_succ_cons, List.drop_zero, Holds, List.forall_mem_cons, List.not_mem_nil, false_implies, implies_true, and_true, Fact.holds, SB.eval, SX.eval, ylike2_0, ylike2_1, ylike2_2, ylike2_3, ylike2_4, ylike2_5, ylike2_6, ylike2_7, ylike2_8, ylike2_9, ylike2_10, ylike2_11, ylike2_12, ylike2_13, ylike2_14, ylike2_15, ylike2_16, ylike2_17, ylike2_18, ylike2_19, ylike2_20, ylike2_21, ylike2_22, ylike2_23, ylike2_24, ylike2_25, ylike2_26, ylike2_27, ylike2_28, wrapU, wrapI, fdivP, tmodP, beq_iff_eq, beq_eq_false_iff_ne, decide_eq_true_eq, decide_eq_false_iff_not, ne_eq] at h ha hb hc
  simp only [Int.reducePow] at h ha hb hc
  first | (clear h hc; omega) | (clear h; omega) | omega

theorem like2_41 (val : Nat → Int) (h : Holds val [.at ylike2_24 false, .at ylike2_25 true, .at ylike2_12 true, .at ylike2_14 true, .at ylike2_13 false, .at ylike2_20 true, .is ylike2_2 2, .ge (.a 0) (-9223372036854775808), .le (.a 0) 9223372036854775807]) : LikeQ val := by
  exfalso
  have hb : Holds val (List.drop 6 _) := fun f hf => h f (List.mem_of_mem_drop hf)
  have ha : Holds val (List.take 1 _) := fun f hf => h f (List.mem_of_mem_take hf)
  have hc : Holds val (List.take 2 _) := fun f hf => h f (List.mem_of_mem_take hf)
  simp only [List.take_succ_cons, List.take_zero, List.drop_succ_cons, List.drop_zero, Holds, List.forall_mem_cons, List.not_mem_nil, false_implies, implies_true, and_true, Fact.holds, SB.eval, SX.eval, ylike2_0, ylike2_1, ylike2_2, ylike2_3, ylike2_4, ylike2_5, ylike2_6, ylike2_7, ylike2_8, ylike2_9, ylike2_10, ylike2_11, ylike2_12, ylike2_13, ylike2_14, ylike2_15, ylike2_16, ylike2_17, ylike2_18, ylike2_19, ylike2_20, ylike2_21, ylike2_22, ylike2_23, ylike2_24, ylike2_25, ylike2_26, ylike2_27, ylike2_28, wrapU, wrapI, fdivP, tmodP, beq_iff_eq, beq_eq_false_iff_ne, decide_eq_true_eq, decide_eq_false_iff_not, ne_eq] at h ha hb hc
  simp only [Int.reducePow] at h ha hb hc
  first | (clear h hc; omega) | (clear h; omega) | omega

theorem like2_42 (val : Nat → Int) (h : Holds val [.is ylike2_27 0, .is ylike2_28 0, .le (.wrap .i64 ylike2_3) 4294967295, .ge (.wrap .i64 ylike2_3) 0, .le (.shr ylike2_4 32) 2147483647, .ge (.shr ylike2_4 32) (-2147483648), .at ylike2_19 true, .at ylike2_23 true, .at ylike2_24 true, .at ylike2_26 true, .at ylike2_25 false, .at ylike2_12 true, .at ylike2_14 true, .at ylike2_13 false, .at ylike2_20 true, .is ylike2_2 2, .ge (.a 0) (-9223372036854775808), .le (.a 0) 9223372036854775807]) : LikeQ val :=
  leafK h (by kernel_rfl)

theorem like2_43 (val : Nat → Int) (h : Holds val [.ne ylike2_27 0, .is ylike2_28 0, .le (.wrap .i64 ylike2_3) 4294967295, .ge (.wrap .i64 ylike2_3) 0, .le (.shr ylike2_4 32) 2147483647, .ge (.shr ylike2_4 32) (-2147483648), .at ylike2_19 true, .at ylike2_23 true, .at ylike2_24 true, .at ylike2_26 true, .at ylike2_25 false, .at ylike2_12 true, .at ylike2_14 true, .at ylike2_13 false, .at ylike2_20 true, .is ylike2_2 2, .ge (.a 0) (-9223372036854775808), .le (.a 0) 9223372036854775807]) : LikeQ val := by
  exfalso
  have hb : Holds val (List.drop 15 _) := fun f hf => h f (List.mem_of_mem_drop hf)
  have ha : Holds val (List.take 1 _) := fun f hf => h f (List.mem_of_mem_take hf)
  have hc : Holds val (List.take 2 _) := fun f hf => h f (List.mem_of_mem_take hf)
  simp only [List.take_succ_cons, List.take_zero, List.drop_succ_cons, List.drop_zero, Holds, List.forall_mem_cons, List.not_mem_nil, false_implies, implies_true, and_true, Fact.holds, SB.eval, SX.eval, ylike2_0, ylike2_1, ylike2_2, ylike2_3, ylike2_4, ylike2_5, ylike2_6, ylike2_7, ylike2_8, ylike2_9, ylike2_10, ylike2_11, ylike2_12, ylike2_13, ylike2_14, ylike2_15, ylike2_16, ylike2_17, ylike2_18, ylike2_19, ylike2_20, ylike2_21, ylike2_22, ylike2_23, ylike2_24, ylike2_25, ylike2_26, ylike2_27, ylike2_28, wrapU, wrapI, fdivP, tmodP, beq_iff_eq, beq_eq_false_iff_ne, decide_eq_true_eq, decide_eq_false_iff_not, ne_eq] at h ha hb hc
  simp only [Int.reducePow] at h ha hb hc
  first | (clear h hc; omega) | (clear h; omega) | omega

theorem like2_44 (val : Nat → Int) (h : Holds val [.ne ylike2_28 0, .le (.wrap .i64 ylike2_3) 4294967295, .ge (.wrap .i64 ylike2_3) 0, .le (.shr ylike2_4 32) 2147483647, .ge (.shr ylike2_4 32) (-2147483648), .at ylike2_19 true, .at ylike2_23 true, .at ylike2_24 true, .at ylike2_26 true, .at ylike2_25 false, .at ylike2_12 true, .at ylike2_14 true, .at ylike2_13 false, .at ylike2_20 true, .is ylike2_2 2, .ge (.a 0) (-9223372036854775808), .le (.a 0) 9223372036854775807]) : LikeQ val := by
  exfalso
  have hb : Holds val (List.drop 14 _) := fun f hf => h f (List.mem_of_mem_drop hf)
  have ha : Holds val (List.take 1 _) := fun f hf => h f (List.mem_of_mem_take hf)
  have hc : Holds val (List.take 2 _) := fun f hf => h f (List.mem_of_mem_take hf)
  simp only [List.take_succ_cons, List.take_zero, List.drop_succ_cons, List.drop_zero, Holds, List.forall_mem_cons, List.not_mem_nil, false_implies, implies_true, and_true, Fact.holds, SB.eval, SX.eval, ylike2_0, ylike2_1, ylike2_2, ylike2_3, ylike2_4, ylike2_5, ylike2_6, ylike2_7, ylike2_8, ylike2_9, ylike2_10, ylike2_11, ylike2_12, ylike2_13, ylike2_14, ylike2_15, ylike2_16, ylike2_17, ylike2_18, ylike2_19, ylike2_20, ylike2_21, ylike2_22, ylike2_23, ylike2_24, ylike2_25, ylike2_26, ylike2_27, ylike2_28, wrapU, wrapI, fdivP, tmodP, beq_iff_eq, beq_eq_false_iff_ne, decide_eq_true_eq, decide_eq_false_iff_not, ne_eq] at h ha hb hc
  simp only [Int.reducePow] at h ha hb hc
  first | (clear h hc; omega) | (clear h; omega) | omega

theorem like2_45 (val : Nat → Int) (h : Holds val [.ge (.wrap .i64 ylike2_3) 4294967296, .ge (.wrap .i64 ylike2_3) 0, .le (.shr ylike2_4 32) 2147483647, .ge (.shr ylike2_4 32) (-2147483648), .at ylike2_19 true, .at ylike2_23 true, .at ylike2_24 true, .at ylike2_26 true, .at ylike2_25 false, .at ylike2_12 true, .at ylike2_14 true, .at ylike2_13 false, .at ylike2_20 true, .is ylike2_2 2, .ge (.a 0) (-9223372036854775808), .le (.a 0) 9223372036854775807]) : LikeQ val := by
  exfalso
  have hb : Holds val (List.drop 13 _) := fun f hf => h f (List.mem_of_mem_drop hf)
  have ha : Holds val (List.take 1 _) := fun f hf => h f (List.mem_of_mem_take hf)
  have hc : Holds val (List.take 2 _) := fun f hf => h f (List.mem_of_mem_take hf)
  simp only [List.take_succ_cons, List.take_zero, List.drop_succ_cons, List.drop_zero, Holds, List.forall_mem_cons, List.not_mem_nil, false_implies, implies_true, and_true, Fact.holds, SB.eval, SX.eval, ylike2_0, ylike2_1, ylike2_2, ylike2_3, ylike2_4, ylike2_5, ylike2_6, ylike2_7, ylike2_8, ylike2_9, ylike2_10, ylike2_11, ylike2_12, ylike2_13, ylike2_14, ylike2_15, ylike2_16, ylike2_17, ylike2_18, ylike2_19, ylike2_20, ylike2_21, ylike2_22, ylike2_23, ylike2_24, ylike2_25, ylike2_26, ylike2_27, ylike2_28, wrapU, wrapI, fdivP, tmodP, beq_iff_eq, beq_eq_false_iff_ne, decide_eq_true_eq, decide_eq_false_iff_not, ne_eq] at h ha hb hc
  simp only [Int.reducePow] at h ha hb hc
  first | (clear h hc; omega) | (clear h; omega) | omega

theorem like2_46 (val : Nat → Int) (h : Holds val [.le (.wrap .i64 ylike2_3) (-1), .le (.shr ylike2_4 32) 2147483647, .ge (.shr ylike2_4 32) (-2147483648), .at ylike2_19 true, .at ylike2_23 true, .at ylike2_24 true, .at ylike2_26 true, .at ylike2_25 false, .at ylike2_12 true, .at ylike2_14 true, .at ylike2_13 false, .at ylike2_20 true, .is ylike2_2 2, .ge (.a 0) (-9223372036854775808), .le (.a 0) 9223372036854775807]) : LikeQ val := by
  exfalso
  have hb : Holds val (List.drop 12 _) := fun f hf => h f (List.mem_of_mem_drop hf)
  have ha : Holds val (List.take 1 _) := fun f hf => h f (List.mem_of_mem_take hf)
  have hc : Holds val (List.take 2 _) := fun f hf => h f (List.mem_of_mem_take hf)
  simp only [List.take_succ_cons, List.take_zero, List.drop_succ_cons, List.drop_zero, Holds, List.forall_mem_cons, List.not_mem_nil, false_implies, implies_true, and_true, Fact.holds, SB.eval, SX.eval, ylike2_0, ylike2_1, ylike2_2, ylike2_3, ylike2_4, ylike2_5, ylike2_6, ylike2_7, ylike2_8, ylike2_9, ylike2_10, ylike2_11, ylike2_12, ylike2_13, ylike2_14, ylike2_15, ylike2_16, ylike2_17, ylike2_18, ylike2_19, ylike2_20, ylike2_21, ylike2_22, ylike2_23, ylike2_24, ylike2_25, ylike2_26, ylike2_27, ylike2_28, wrapU, wrapI, fdivP, tmodP, beq_iff_eq, beq_eq_false_iff_ne, decide_eq_true_eq, decide_eq_false_iff_not, ne_eq] at h ha hb hc
  simp only [Int.reducePow] at h ha hb hc
  first | (clear h hc; omega) | (clear h; omega) | omega

theorem like2_47 (val : Nat → Int) (h : Holds val [.ge (.shr ylike2_4 32) 2147483648, .ge (.shr ylike2_4 32) (-2147483648), .at ylike2_19 true, .at ylike2_23 true, .at ylike2_24 true, .at ylike2_26 true, .at ylike2_25 false, .at ylike2_12 true, .at ylike2_14 true, .at ylike2_13 false, .at ylike2_20 true, .is ylike2_2 2, .ge (.a 0) (-9223372036854775808), .le (.a 0) 9223372036854775807]) : LikeQ val := by
  exfalso
  have hb : Holds val (List.drop 11 _) := fun f hf => h f (List.mem_of_mem_drop hf)
  have ha : Holds val (List.take 1 _) := fun f hf => h f (List.mem_of_mem_take hf)
  have hc : Holds val (List.take 2 _) := fun f hf => h f (List.mem_of_mem_take hf)
  simp only [List.take_succ_cons, List.take_zero, List.drop_succ_cons, List.drop_zero, Holds, List.forall_mem_cons, List.not_mem_nil, false_implies, implies_true, and_true, Fact.holds, SB.eval, SX.eval, ylike2_0, ylike2_1, ylike2_2, ylike2_3, ylike2_4, ylike2_5, ylike2_6, ylike2_7, ylike2_8, ylike2_9, ylike2_10, ylike2_11, ylike2_12, ylike2_13, ylike2_14, ylike2_15, ylike2_16, ylike2_17, ylike2_18, ylike2_19, ylike2_20, ylike2_21, ylike2_22, ylike2_23, ylike2_24, ylike2_25, ylike2_26, ylike2_27, ylike2_28, wrapU, wrapI, fdivP, tmodP, beq_iff_eq, beq_eq_false_iff_ne, decide_eq_true_eq, decide_eq_false_iff_not, ne_eq] at h ha hb hc
  simp only [Int.reducePow] at h ha hb hc
  first | (clear h hc; omega) | (clear h; omega) | omega

theorem like2_48 (val : Nat → Int) (h : Holds val [.le (.shr ylike2_4 32) (-2147483649), .at ylike2_19 true, .at ylike2_23 true, .at ylike2_24 true, .at ylike2_26 true, .at ylike2_25 false, .at ylike2_12 true, .at ylike2_14 true, .at ylike2_13 false, .at ylike2_20 true, .is ylike2_2 2, .ge (.a 0) (-9223372036854775808), .le (.a 0) 9223372036854775807]) : LikeQ val := by
  exfalso
  have hb : Holds val (List.drop 10 _) := fun f hf => h f (List.mem_of_mem_drop hf)
  have ha : Holds val (List.take 1 _) := fun f hf => h f (List.mem_of_mem_take hf)
  have hc : Holds val (List.take 2 _) := fun f hf => h f (List.mem_of_mem_take hf)
  simp only [List.take_succ_cons, List.take_zero, List.drop_succ_cons, List.drop_zero, Holds, List.forall_mem_cons, List.not_mem_nil, false_implies, implies_true, and_true, Fact.holds, SB.eval, SX.eval, ylike2_0, ylike2_1, ylike2_2, ylike2_3, ylike2_4, ylike2_5, ylike2_6, ylike2_7, ylike2_8, ylike2_9, ylike2_10, ylike2_11, ylike2_12, ylike2_13, ylike2_14, ylike2_15, ylike2_16, ylike2_17, ylike2_18, ylike2_19, ylike2_20, ylike2_21, ylike2_22, ylike2_23, ylike2_24, ylike2_25, ylike2_26, ylike2_27, ylike2_28, wrapU, wrapI, fdivP, tmodP, beq_iff_eq, beq_eq_false_iff_ne, decide_eq_true_eq, decide_eq_false_iff_not, ne_eq] at h ha hb hc
  simp only [Int.reducePow] at h ha hb hc
  first | (clear h hc; omega) | (clear h; omega) | omega

theorem like2_49 (val : Nat → Int) (h : Holds val [.at ylike2_19 false, .at ylike2_23 true, .at ylike2_24 true, .at ylike2_26 true, .at ylike2_25 false, .at ylike2_12 true, .at ylike2_14 true, .at ylike2_13 false, .at ylike2_20 true, .is ylike2_2 2, .ge (.a 0) (-9223372036854775808), .le (.a 0) 9223372036854775807]) : LikeQ val := by
  exfalso
  have hb : Holds val (List.drop 9 _) := fun f hf => h f (List.mem_of_mem_drop hf)
  have ha : Holds val (List.take 1 _) := fun f hf => h f (List.mem_of_mem_take hf)
  have hc : Holds val (List.take 2 _) := fun f hf => h f (List.mem_of_mem_take hf)
  simp only [List.take_succ_cons, List.take_zero, List.drop_succ_cons, List.drop_zero, Holds, List.forall_mem_cons, List.not_mem_nil, false_implies, implies_true, and_true, Fact.holds, SB.eval, SX.eval, ylike2_0, ylike2_1, ylike2_2, ylike2_3, ylike2_4, ylike2_5, ylike2_6, ylike2_7, ylike2_8, ylike2_9, ylike2_10, ylike2_11, ylike2_12, ylike2_13, ylike2_14, ylike2_15, ylike2_16, ylike2_17, ylike2_18, ylike2_19, ylike2_20, ylike2_21, ylike2_22, ylike2_23, ylike2_24, ylike2_25, ylike2_26, ylike2_27, ylike2_28, wrapU, wrapI, fdivP, tmodP, beq_iff_eq, beq_eq_false_iff_ne, decide_eq_true_eq, decide_eq_false_iff_not, ne_eq] at h ha hb hc
  simp only [Int.reducePow] at h ha hb hc
  first | (clear h hc; omega) | (clear h; omega) | omega

theorem like2_50 (val : Nat → Int) (h : Holds val [.at ylike2_23 false, .at ylike2_24 true, .at ylike2_26 true, .at ylike2_25 false, .at ylike2_12 true, .at ylike2_14 true, .at ylike2_13 false, .at ylike2_20 true, .is ylike2_2 2, .ge (.a 0) (-9223372036854775808), .le (.a 0) 9223372036854775807]) : LikeQ val := by
  exfalso
  have hb : Holds val (List.drop 8 _) := fun f hf => h f (List.mem_of_mem_drop hf)
  have ha : Holds val (List.take 1 _) := fun f hf => h f (List.mem_of_mem_take hf)
  have hc : Holds val (List.take 2 _) := fun f hf => h f (List.mem_of_mem_take hf)
  simp only [List.take_succ_cons, List.take_zero, List.drop_succ_cons, List.drop_zero, Holds, List.forall_mem_cons, List.not_mem_nil, false_implies, implies_true, and_true, Fact.holds, SB.eval, SX.eval, ylike2_0, ylike2_1, ylike2_2, ylike2_3, ylike2_4, ylike2_5, ylike2_6, ylike2_7, ylike2_8, ylike2_9, ylike2_10, ylike2_11, ylike2_12, ylike2_13, ylike2_14, ylike2_15, ylike2_16, ylike2_17, ylike2_18, ylike2_19, ylike2_20, ylike2_21, ylike2_22, ylike2_23, ylike2_24, ylike2_25, ylike2_26, ylike2_27, ylike2_28, wrapU, wrapI, fdivP, tmodP, beq_iff_eq, beq_eq_false_iff_ne, decide_eq_true_eq, decide_eq_false_iff_not, ne_eq] at h ha hb hc
  simp only [Int.reducePow] at h ha hb hc
  first | (clear h hc; omega) | (clear h; omega) | omega

theorem like2_51 (val : Nat → Int) (h : Holds val [.at ylike2_24 false, .at ylike2_26 true, .at ylike2_25 false, .at ylike2_12 true, .at ylike2_14 true, .at ylike2_13 false, .at ylike2_20 true, .is ylike2_2 2, .ge (.a 0) (-9223372036854775808), .le (.a 0) 9223372036854775807]) : LikeQ val := by
  exfalso
  have hb : Holds val (List.drop 7 _) := fun f hf => h f (List.mem_of_mem_drop hf)
  have ha : Holds val (List.take 1 _) := fun f hf => h f (List.mem_of_mem_take hf)
  have hc : Holds val (List.take 2 _) := fun f hf => h f (List.mem_of_mem_take hf)
  simp only [List.take_succ_cons, List.take_zero, List.drop_succ_cons, List.drop_zero, Holds, List.forall_mem_cons, List.not_mem_nil, false_implies, implies_true, and_true, Fact.holds, SB.eval, SX.eval, ylike2_0, ylike2_1, ylike2_2, ylike2_3, ylike2_4, ylike2_5, ylike2_6, ylike2_7, ylike2_8, ylike2_9, ylike2_10, ylike2_11, ylike2_12, ylike2_13, ylike2_14, ylike2_15, ylike2_16, ylike2_17, ylike2_18, ylike2_19, ylike2_20, ylike2_21, ylike2_22, ylike2_23, ylike2_24, ylike2_25, ylike2_26, ylike2_27, ylike2_28, wrapU, wrapI, fdivP, tmodP, beq_iff_eq, beq_eq_false_iff_ne, decide_eq_true_eq, decide_eq_false_iff_not, ne_eq] at h ha hb hc
  simp only [Int.reducePow] at h ha hb hc
  first | (clear h hc; omega) | (clear h; omega) | omega

theorem like2_52 (val : Nat → Int) (h : Holds val [.is (.a 0) 0, .is (.wrap .i64 ylike2_3) 0, .at ylike2_26 false, .at ylike2_25 false, .at ylike2_12 true, .at ylike2_14 true, .at ylike2_13 false, .at ylike2_20 true, .is ylike2_2 2, .ge (.a 0) (-9223372036854775808), .le (.a 0) 9223372036854775807]) : LikeQ val :=
  leafK h (by kernel_rfl)

theorem like2_53 (val : Nat → Int) (h : Holds val [.le (.a 0) (-2147483649), .is (.shr ylike2_4 32) 0, .is ylike2_7 0, .at ylike2_9 true, .ne (.a 0) 0, .is (.wrap .i64 ylike2_3) 0, .at ylike2_26 false, .at ylike2_25 false, .at ylike2_12 true, .at ylike2_14 true, .at ylike2_13 false, .at ylike2_20 true, .is ylike2_2 2, .ge (.a 0) (-9223372036854775808), .le (.a 0) 9223372036854775807]) : LikeQ val :=
  leafK h (by kernel_rfl)

theorem like2_54 (val : Nat → Int) (h : Holds val [.ge (.a 0) 4294967296, .ge (.a 0) (-2147483648), .is (.shr ylike2_4 32) 0, .is ylike2_7 0, .at ylike2_9 true, .ne (.a 0) 0, .is (.wrap .i64 ylike2_3) 0, .at ylike2_26 false, .at ylike2_25 false, .at ylike2_12 true, .at ylike2_14 true, .at ylike2_13 false, .at ylike2_20 true, .is ylike2_2 2, .ge (.a 0) (-9223372036854775808), .le (.a 0) 9223372036854775807]) : LikeQ val :=
  leafK h (by kernel_rfl)

theorem like2_55 (val : Nat → Int) (h : Holds val [.le (.a 0) 4294967295, .ge (.a 0) (-2147483648), .is (.shr ylike2_4 32) 0, .is ylike2_7 0, .at ylike2_9 true, .ne (.a 0) 0, .is (.wrap .i64 ylike2_3) 0, .at ylike2_26 false, .at ylike2_25 false, .at ylike2_12 true, .at ylike2_14 true, .at ylike2_13 false, .at ylike2_20 true, .is ylike2_2 2, .ge (.a 0) (-9223372036854775808), .le (.a 0) 9223372036854775807]) : LikeQ val := by
  exfalso
  have hb : Holds val (List.drop 13 _) := fun f hf => h f (List.mem_of_mem_drop hf)
  have ha : Holds val (List.take 1 _) := fun f hf => h f (List.mem_of_mem_take hf)
  have hc : Holds val (List.take 2 _) := fun f hf => h f (List.mem_of_mem_take hf)
  simp only [List.take_succ_cons, List.take_zero, List.drop_succ_cons, List.drop_zero, Holds, List.forall_mem_cons, List.not_mem_nil, false_implies, implies_true, and_true, Fact.holds, SB.eval, SX.eval, ylike2_0, ylike2_1, ylike2_2, ylike2_3, ylike2_4, ylike2_5, ylike2_6, ylike2_7, ylike2_8, ylike2_9, ylike2_10, ylike2_11, ylike2_12, ylike2_13, ylike2_14, ylike2_15, ylike2_16, ylike2_17, ylike2_18, ylike2_19, ylike2_20, ylike2_21, ylike2_22, ylike2_23, ylike2_24, ylike2_25, ylike2_26, ylike2_27, ylike2_28, wrapU, wrapI, fdivP, tmodP, beq_iff_eq, beq_eq_false_iff_ne, decide_eq_true_eq, decide_eq_false_iff_not, ne_eq] at h ha hb hc
  simp only [Int.reducePow] at h ha hb hc
  first | (clear h hc; omega) | (clear h; omega) | omega

theorem like2_56 (val : Nat → Int) (h : Holds val [.ne (.shr ylike2_4 32) 0, .is ylike2_7 0, .at ylike2_9 true, .ne (.a 0) 0, .is (.wrap .i64 ylike2_3) 0, .at ylike2_26 false, .at ylike2_25 false, .at ylike2_12 true, .at ylike2_14 true, .at ylike2_13 false, .at ylike2_20 true, .is ylike2_2 2, .ge (.a 0) (-9223372036854775808), .le (.a 0) 9223372036854775807]) : LikeQ val := by
  exfalso
  have hb : Holds val (List.drop 11 _) := fun f hf => h f (List.mem_of_mem_drop hf)
  have ha : Holds val (List.take 1 _) := fun f hf => h f (List.mem_of_mem_take hf)
  have hc : Holds val (List.take 2 _) := fun f hf => h f (List.mem_of_mem_take hf)
  simp only [List.take_succ_cons, List.take_zero, List.drop_succ_cons, List.drop_zero, Holds, List.forall_mem_cons, List.not_mem_nil, false_implies, implies_true, and_true, Fact.holds, SB.eval, SX.eval, ylike2_0, ylike2_1, ylike2_2, ylike2_3, ylike2_4, ylike2_5, ylike2_6, ylike2_7, ylike2_8, ylike2_9, ylike2_10, ylike2_11, ylike2_12, ylike2_13, ylike2_14, ylike2_15, ylike2_16, ylike2_17, ylike2_18, ylike2_19, ylike2_20, ylike2_21, ylike2_22, ylike2_23, ylike2_24, ylike2_25, ylike2_26, ylike2_27, ylike2_28, wrapU, wrapI, fdivP, tmodP, beq_iff_eq, beq_eq_false_iff_ne, decide_eq_true_eq, decide_eq_false_iff_not, ne_eq] at h ha hb hc
  simp only [Int.reducePow] at h ha hb hc
  first | (clear h hc; omega) | (clear h; omega) | omega

theorem like2_57 (val : Nat → Int) (h : Holds val [.ne ylike2_7 0, .at ylike2_9 true, .ne (.a 0) 0, .is (.wrap .i64 ylike2_3) 0, .at ylike2_26 false, .at ylike2_25 false, .at ylike2_12 true, .at ylike2_14 true, .at ylike2_13 false, .at ylike2_20 true, .is ylike2_2 2, .ge (.a 0) (-9223372036854775808), .le (.a 0) 9223372036854775807]) : LikeQ val := by
  exfalso
  have hb : Holds val (List.drop 10 _) := fun f hf => h f (List.mem_of_mem_drop hf)
  have ha : Holds val (List.take 1 _) := fun f hf => h f (List.mem_of_mem_take hf)
  have hc : Holds val (List.take 2 _) := fun f hf => h f (List.mem_of_mem_take hf)
  simp only [List.take_succ_cons, List.take_zero, List.drop_succ_cons, List.drop_zero, Holds, List.forall_mem_cons, List.not_mem_nil, false_implies, implies_true, and_true, Fact.holds, SB.eval, SX.eval, ylike2_0, ylike2_1, ylike2_2, ylike2_3, ylike2_4, ylike2_5, ylike2_6, ylike2_7, ylike2_8, ylike2_9, ylike2_10, ylike2_11, ylike2_12, ylike2_13, ylike2_14, ylike2_15, ylike2_16, ylike2_17, ylike2_18, ylike2_19, ylike2_20, ylike2_21, ylike2_22, ylike2_23, ylike2_24, ylike2_25, ylike2_26, ylike2_27, ylike2_28, wrapU, wrapI, fdivP, tmodP, beq_iff_eq, beq_eq_false_iff_ne, decide_eq_true_eq, decide_eq_false_iff_not, ne_eq] at h ha hb hc
  simp only [Int.reducePow] at h ha hb hc
  first | (clear h hc; omega) | (clear h; omega) | omega

theorem like2_58 (val : Nat → Int) (h : Holds val [.le (.a 0) (-2147483649), .at ylike2_9 false, .ne (.a 0) 0, .is (.wrap .i64 ylike2_3) 0, .at ylike2_26 false, .at ylike2_25 false, .at ylike2_12 true, .at ylike2_14 true, .at ylike2_13 false, .at ylike2_20 true, .is ylike2_2 2, .ge (.a 0) (-9223372036854775808), .le (.a 0) 9223372036854775807]) : LikeQ val :=
  leafK h (by kernel_rfl)

theorem like2_59 (val : Nat → Int) (h : Holds val [.ge (.a 0) 4294967296, .ge (.a 0) (-2147483648), .at ylike2_9 false, .ne (.a 0) 0, .is (.wrap .i64 ylike2_3) 0, .at ylike2_26 false, .at ylike2_25 false, .at ylike2_12 true, .at ylike2_14 true, .at ylike2_13 false, .at ylike2_20 true, .is ylike2_2 2, .ge (.a 0) (-9223372036854775808), .le (.a 0) 9223372036854775807]) : LikeQ val :=
  leafK h (by kernel_rfl)

theorem like2_60 (val : Nat → Int) (h : Holds val [.le (.a 0) 4294967295, .ge (.a 0) (-2147483648), .at ylike2_9 false, .ne (.a 0) 0, .is (.wrap .i64 ylike2_3) 0, .at ylike2_26 false, .at ylike2_25 false, .at ylike2_12 true, .at ylike2_14 true, .at ylike2_13 false, .at ylike2_20 true, .is ylike2_2 2, .ge (.a 0) (-9223372036854775808), .le (.a 0) 9223372036854775807]) : LikeQ val := by
  exfalso
  have hb : Holds val (List.drop 11 _) := fun f hf => h f (List.mem_of_mem_drop hf)
  have ha : Holds val (List.take 1 _) := fun f hf => h f (List.mem_of_mem_take hf)
  have hc : Holds val (List.take 2 _) := fun f hf => h f (List.mem_of_mem_take hf)
  simp only [List.take_succ_cons, List.take_zero, List.drop_succ_cons, List.drop_zero, Holds, List.forall_mem_cons, List.not_mem_nil, false_implies, implies_true, and_true, Fact.holds, SB.eval, SX.eval, ylike2_0, ylike2_1, ylike2_2, ylike2_3, ylike2_4, ylike2_5, ylike2_6, ylike2_7, ylike2_8, ylike2_9, ylike2_10, ylike2_11, ylike2_12, ylike2_13, ylike2_14, ylike2_15, ylike2_16, ylike2_17, ylike2_18, ylike2_19, ylike2_20, ylike2_21, ylike2_22, ylike2_23, ylike2_24, ylike2_25, ylike2_26, ylike2_27, ylike2_28, wrapU, wrapI, fdivP, tmodP, beq_iff_eq, beq_eq_false_iff_ne, decide_eq_true_eq, decide_eq_false_iff_not, ne_eq] at h ha hb hc
  simp only [Int.reducePow] at h ha hb hc
  first | (clear h hc; omega) | (clear h; omega) | omega

theorem like2_61 (val : Nat → Int) (h : Holds val [.ne (.wrap .i64 ylike2_3) 0, .at ylike2_26 false, .at ylike2_25 false, .at ylike2_12 true, .at ylike2_14 true, .at ylike2_13 false, .at ylike2_20 true, .is ylike2_2 2, .ge (.a 0) (-9223372036854775808), .le (.a 0) 9223372036854775807]) : LikeQ val := by
  exfalso
  have hb : Holds val (List.drop 7 _) := fun f hf => h f (List.mem_of_mem_drop hf)
  have ha : Holds val (List.take 1 _) := fun f hf => h f (List.mem_of_mem_take hf)
  have hc : Holds val (List.take 2 _) := fun f hf => h f (List.mem_of_mem_take hf)
  simp only [List.take_succ_cons, List.take_zero, List.drop_succ_cons, List.drop_zero, Holds, List.forall_mem_cons, List.not_mem_nil, false_implies, implies_true, and_true, Fact.holds, SB.eval, SX.eval, ylike2_0, ylike2_1, ylike2_2, ylike2_3, ylike2_4, ylike2_5, ylike2_6, ylike2_7, ylike2_8, ylike2_9, ylike2_10, ylike2_11, ylike2_12, ylike2_13, ylike2_14, ylike2_15, ylike2_16, ylike2_17, ylike2_18, ylike2_19, ylike2_20, ylike2_21, ylike2_22, ylike2_23, ylike2_24, ylike2_25, ylike2_26, ylike2_27, ylike2_28, wrapU, wrapI, fdivP, tmodP, beq_iff_eq, beq_eq_false_iff_ne, decide_eq_true_eq, decide_eq_false_iff_not, ne_eq] at h ha hb hc
  simp only [Int.reducePow] at h ha hb hc
  first | (clear h hc; omega) | (clear h; omega) | omega

theorem like2_62 (val : Nat → Int) (h : Holds val [.at ylike2_12 false, .at ylike2_14 true, .at ylike2_13 false, .at ylike2_20 true, .is ylike2_2 2, .ge (.a 0) (-9223372036854775808), .le (.a 0) 9223372036854775807]) : LikeQ val := by
  exfalso
  have hb : Holds val (List.drop 4 _) := fun f hf => h f (List.mem_of_mem_drop hf)
  have ha : Holds val (List.take 1 _) := fun f hf => h f (List.mem_of_mem_take hf)
  have hc : Holds val (List.take 2 _) := fun f hf => h f (List.mem_of_mem_take hf)
  simp only [List.take_succ_cons, List.take_zero, List.drop_succ_cons, List.drop_zero, Holds, List.forall_mem_cons, List.not_mem_nil, false_implies, implies_true, and_true, Fact.holds, SB.eval, SX.eval, ylike2_0, ylike2_1, ylike2_2, ylike2_3, ylike2_4, ylike2_5, ylike2_6, ylike2_7, ylike2_8, ylike2_9, ylike2_10, ylike2_11, ylike2_12, ylike2_13, ylike2_14, ylike2_15, ylike2_16, ylike2_17, ylike2_18, ylike2_19, ylike2_20, ylike2_21, ylike2_22, ylike2_23, ylike2_24, ylike2_25, ylike2_26, ylike2_27, ylike2_28, wrapU, wrapI, fdivP, tmodP, beq_iff_eq, beq_eq_false_iff_ne, decide_eq_true_eq, decide_eq_false_iff_not, ne_eq] at h ha hb hc
  simp only [Int.reducePow] at h ha hb hc
  first | (clear h hc; omega) | (clear h; omega) | omega

theorem like2_63 (val : Nat → Int) (h : Holds val [.is (.a 0) 0, .is (.wrap .i64 ylike2_3) 0, .at ylike2_24 true, .at ylike2_25 true, .is (.shr ylike2_4 32) 0, .at ylike2_14 false, .at ylike2_13 false, .at ylike2_20 true, .is ylike2_2 2, .ge (.a 0) (-9223372036854775808), .le (.a 0) 9223372036854775807]) : LikeQ val :=
  leafK h (by kernel_rfl)

theorem like2_64 (val : Nat → Int) (h : Holds val [.le (.a 0) (-2147483649), .ne (.a 0) 0, .is (.wrap .i64 ylike2_3) 0, .at ylike2_24 true, .at ylike2_25 true, .is (.shr ylike2_4 32) 0, .at ylike2_14 false, .at ylike2_13 false, .at ylike2_20 true, .is ylike2_2 2, .ge (.a 0) (-9223372036854775808), .le (.a 0) 9223372036854775807]) : LikeQ val :=
  leafK h (by kernel_rfl)

theorem like2_65 (val : Nat → Int) (h : Holds val [.ge (.a 0) 4294967296, .ge (.a 0) (-2147483648), .ne (.a 0) 0, .is (.wrap .i64 ylike2_3) 0, .at ylike2_24 true, .at ylike2_25 true, .is (.shr ylike2_4 32) 0, .at ylike2_14 false, .at ylike2_13 false, .at ylike2_20 true, .is ylike2_2 2, .ge (.a 0) (-9223372036854775808), .le (.a 0) 9223372036854775807]) : LikeQ val :=
  leafK h (by kernel_rfl)

theorem like2_66 (val : Nat → Int) (h : Holds val [.le (.a 0) 4294967295, .ge (.a 0) (-2147483648), .ne (.a 0) 0, .is (.wrap .i64 ylike2_3) 0, .at ylike2_24 true, .at ylike2_25 true, .is (.shr ylike2_4 32) 0, .at ylike2_14 false, .at ylike2_13 false, .at ylike2_20 true, .is ylike2_2 2, .ge (.a 0) (-9223372036854775808), .le (.a 0) 9223372036854775807]) : LikeQ val := by
  exfalso
  have hb : Holds val (List.drop 10 _) := fun f hf => h f (List.mem_of_mem_drop hf)
  have ha : Holds val (List.take 1 _) := fun f hf => h f (List.mem_of_mem_take hf)
  have hc : Holds val (List.take 2 _) := fun f hf => h f (List.mem_of_mem_take hf)
  simp only [List.take_succ_cons, List.take_zero, List.drop_succ_cons, List.drop_zero, Holds, List.forall_mem_cons, List.not_mem_nil, false_implies, implies_true, and_true, Fact.holds, SB.eval, SX.eval, ylike2_0, ylike2_1, ylike2_2, ylike2_3, ylike2_4, ylike2_5, ylike2_6, ylike2_7, ylike2_8, ylike2_9, ylike2_10, ylike2_11, ylike2_12, ylike2_13, ylike2_14, ylike2_15, ylike2_16, ylike2_17, ylike2_18, ylike2_19, ylike2_20, ylike2_21, ylike2_22, ylike2_23, ylike2_24, ylike2_25, ylike2_26, ylike2_27, ylike2_28, wrapU, wrapI, fdivP, tmodP, beq_iff_eq, beq_eq_false_iff_ne, decide_eq_true_eq, decide_eq_false_iff_not, ne_eq] at h ha hb hc
  simp only [Int.reducePow] at h ha hb hc
  first | (clear h hc; omega) | (clear h; omega) | omega

theorem like2_67 (val : Nat → Int) (h : Holds val [.ne (.wrap .i64 ylike2_3) 0, .at ylike2_24 true, .at ylike2_25 true, .is (.shr ylike2_4 32) 0, .at ylike2_14 false, .at ylike2_13 false, .at ylike2_20 true, .is ylike2_2 2, .ge (.a 0) (-9223372036854775808), .le (.a 0) 9223372036854775807]) : LikeQ val := by
  exfalso
  have hb : Holds val (List.drop 7 _) := fun f hf => h f (List.mem_of_mem_drop hf)
  have ha : Holds val (List.take 1 _) := fun f hf => h f (List.mem_of_mem_take hf)
  have hc : Holds val (List.take 2 _) := fun f hf => h f (List.mem_of_mem_take hf)
  simp only [List.take_succ_cons, List.take_zero, List.drop_succ_cons, List.drop_zero, Holds, List.forall_mem_cons, List.not_mem_nil, false_implies, implies_true, and_true, Fact.holds, SB.eval, SX.eval, ylike2_0, ylike2_1, ylike2_2, ylike2_3, ylike2_4, ylike2_5, ylike2_6, ylike2_7, ylike2_8, ylike2_9, ylike2_10, ylike2_11, ylike2_12, ylike2_13, ylike2_14, ylike2_15, ylike2_16, ylike2_17, ylike2_18, ylike2_19, ylike2_20, ylike2_21, ylike2_22, ylike2_23, ylike2_24, ylike2_25, ylike2_26, ylike2_27, ylike2_28, wrapU, wrapI, fdivP, tmodP, beq_iff_eq, beq_eq_false_iff_ne, decide_eq_true_eq, decide_eq_false_iff_not, ne_eq] at h ha hb hc
  simp only [Int.reducePow] at h ha hb hc
  first | (clear h hc; omega) | (clear h; omega) | omega

theorem like2_68 (val : Nat → Int) (h : Holds val [.at ylike2_24 false, .at ylike2_25 true, .is (.shr ylike2_4 32) 0, .at ylike2_14 false, .at ylike2_13 false, .at ylike2_20 true, .is ylike2_2 2, .ge (.a 0) (-9223372036854775808), .le (.a 0) 9223372036854775807]) : LikeQ val := by
  exfalso
  have hb : Holds val (List.drop 6 _) := fun f hf => h f (List.mem_of_mem_drop hf)
  have ha : Holds val (List.take 1 _) := fun f hf => h f (List.mem_of_mem_take hf)
  have hc : Holds val (List.take 2 _) := fun f hf => h f (List.mem_of_mem_take hf)
  simp only [List.take_succ_cons, List.take_zero, List.drop_succ_cons, List.drop_zero, Holds, List.forall_mem_cons, List.not_mem_nil, false_implies, implies_true, and_true, Fact.holds, SB.eval, SX.eval, ylike2_0, ylike2_1, ylike2_2, ylike2_3, ylike2_4, ylike2_5, ylike2_6, ylike2_7, ylike2_8, ylike2_9, ylike2_10, ylike2_11, ylike2_12, ylike2_13, ylike2_14, ylike2_15, ylike2_16, ylike2_17, ylike2_18, ylike2_19, ylike2_20, ylike2_21, ylike2_22, ylike2_23, ylike2_24, ylike2_25, ylike2_26, ylike2_27, ylike2_28, wrapU, wrapI, fdivP, tmodP, beq_iff_eq, beq_eq_false_iff_ne, decide_eq_true_eq, decide_eq_false_iff_not, ne_eq] at h ha hb hc
  simp only [Int.reducePow] at h ha hb hc
  first | (clear h hc; omega) | (clear h; omega) | omega

theorem like2_69 (val : Nat → Int) (h : Holds val [.is (.a 0) 0, .is (.wrap .i64 ylike2_3) 0, .at ylike2_24 true, .at ylike2_26 true, .at ylike2_25 false, .is (.shr ylike2_4 32) 0, .at ylike2_14 false, .at ylike2_13 false, .at ylike2_20 true, .is ylike2_2 2, .ge (.a 0) (-9223372036854775808), .le (.a 0) 9223372036854775807]) : LikeQ val :=
  leafK h (by kernel_rfl)

theorem like2_70 (val : Nat → Int) (h : Holds val [.le (.a 0) (-2147483649), .ne (.a 0) 0, .is (.wrap .i64 ylike2_3) 0, .at ylike2_24 true, .at ylike2_26 true, .at ylike2_25 false, .is (.shr ylike2_4 32) 0, .at ylike2_14 false, .at ylike2_13 false, .at ylike2_20 true, .is ylike2_2 2, .ge (.a 0) (-9223372036854775808), .le (.a 0) 9223372036854775807]) : LikeQ val :=
  leafK h (by kernel_rfl)

theorem like2_71 (val : Nat → Int) (h : Holds val [.ge (.a 0) 4294967296, .ge (.a 0) (-2147483648), .ne (.a 0) 0, .is (.wrap .i64 ylike2_3) 0, .at ylike2_24 true, .at ylike2_26 true, .at ylike2_25 false, .is (.shr ylike2_4 32) 0, .at ylike2_14 false, .at ylike2_13 false, .at ylike2_20 true, .is ylike2_2 2, .ge (.a 0) (-9223372036854775808), .le (.a 0) 9223372036854775807]) : LikeQ val :=
  leafK h (by kernel_rfl)

theorem like2_72 (val : Nat → Int) (h : Holds val [.le (.a 0) 4294967295, .ge (.a 0) (-2147483648), .ne (.a 0) 0, .is (.wrap .i64 ylike2_3) 0, .at ylike2_24 true, .at ylike2_26 true, .at ylike2_25 false, .is (.shr ylike2_4 32) 0, .at ylike2_14 false, .at ylike2_13 false, .at ylike2_20 true, .is ylike2_2 2, .ge (.a 0) (-9223372036854775808), .le (.a 0) 9223372036854775807]) : LikeQ val := by
  exfalso
  have hb : Holds val (List.drop 11 _) := fun f hf => h f (List.mem_of_mem_drop hf)
  have ha : Holds val (List.take 1 _) := fun f hf => h f (List.mem_of_mem_take hf)
  have hc : Holds val (List.take 2 _) := fun f hf => h f (List.mem_of_mem_take hf)
  simp only [List.take_succ_cons, List.take_zero, List.drop_succ_cons, List.drop_zero, Holds, List.forall_mem_cons, List.not_mem_nil, false_implies, implies_true, and_true, Fact.holds, SB.eval, SX.eval, ylike2_0, ylike2_1, ylike2_2, ylike2_3, ylike2_4, ylike2_5, ylike2_6, ylike2_7, ylike2_8, ylike2_9, ylike2_10, ylike2_11, ylike2_12, ylike2_13, ylike2_14, ylike2_15, ylike2_16, ylike2_17, ylike2_18, ylike2_19, ylike2_20, ylike2_21, ylike2_22, ylike2_23, ylike2_24, ylike2_25, ylike2_26, ylike2_27, ylike2_28, wrapU, wrapI, fdivP, tmodP, beq_iff_eq, beq_eq_false_iff_ne, decide_eq_true_eq, decide_eq_false_iff_not, ne_eq] at h ha hb hc
  simp only [Int.reducePow] at h ha hb hc
  first | (clear h hc; omega) | (clear h; omega) | omega

theorem like2_73 (val : Nat → Int) (h : Holds val [.ne (.wrap .i64 ylike2_3) 0, .at ylike2_24 true, .at ylike2_26 true, .at ylike2_25 false, .is (.shr ylike2_4 32) 0, .at ylike2_14 false, .at ylike2_13 false, .at ylike2_20 true, .is ylike2_2 2, .ge (.a 0) (-9223372036854775808), .le (.a 0) 9223372036854775807]) : LikeQ val := by
  exfalso
  have hb : Holds val (List.drop 8 _) := fun f hf => h f (List.mem_of_mem_drop hf)
  have ha : Holds val (List.take 1 _) := fun f hf => h f (List.mem_of_mem_take hf)
  have hc : Holds val (List.take 2 _) := fun f hf => h f (List.mem_of_mem_take hf)
  simp only [List.take_succ_cons, List.take_zero, List.drop_succ_cons, List.drop_zero, Holds, List.forall_mem_cons, List.not_mem_nil, false_implies, implies_true, and_true, Fact.holds, SB.eval, SX.eval, ylike2_0, ylike2_1, ylike2_2, ylike2_3, ylike2_4, ylike2_5, ylike2_6, ylike2_7, ylike2_8, ylike2_9, ylike2_10, ylike2_11, ylike2_12, ylike2_13, ylike2_14, ylike2_15, ylike2_16, ylike2_17, ylike2_18, ylike2_19, ylike2_20, ylike2_21, ylike2_22, ylike2_23, ylike2_24, ylike2_25, ylike2_26, ylike2_27, ylike2_28, wrapU, wrapI, fdivP, tmodP, beq_iff_eq, beq_eq_false_iff_ne, decide_eq_true_eq, decide_eq_false_iff_not, ne_eq] at h ha hb hc
  simp only [Int.reducePow] at h ha hb hc
  first | (clear h hc; omega) | (clear h; omega) | omega

theorem like2_74 (val : Nat → Int) (h : Holds val [.at ylike2_24 false, .at ylike2_26 true, .at ylike2_25 false, .is (.shr ylike2_4 32) 0, .at ylike2_14 false, .at ylike2_13 false, .at ylike2_20 true, .is ylike2_2 2, .ge (.a 0) (-9223372036854775808), .le (.a 0) 9223372036854775807]) : LikeQ val := by
  exfalso
  have hb : Holds val (List.drop 7 _) := fun f hf => h f (List.mem_of_mem_drop hf)
  have ha : Holds val (List.take 1 _) := fun f hf => h f (List.mem_of_mem_take hf)
  have hc : Holds val (List.take 2 _) := fun f hf => h f (List.mem_of_mem_take hf)
  simp only [List.take_succ_cons, List.take_zero, List.drop_succ_cons, List.drop_zero, Holds, List.forall_mem_cons, List.not_mem_nil, false_implies, implies_true, and_true, Fact.holds, SB.eval, SX.eval, ylike2_0, ylike2_1, ylike2_2, ylike2_3, ylike2_4, ylike2_5, ylike2_6, ylike2_7, ylike2_8, ylike2_9, ylike2_10, ylike2_11, ylike2_12, ylike2_13, ylike2_14, ylike2_15, ylike2_16, ylike2_17, ylike2_18, ylike2_19, ylike2_20, ylike2_21, ylike2_22, ylike2_23, ylike2_24, ylike2_25, ylike2_26, ylike2_27, ylike2_28, wrapU, wrapI, fdivP, tmodP, beq_iff_eq, beq_eq_false_iff_ne, decide_eq_true_eq, decide_eq_false_iff_not, ne_eq] at h ha hb hc
  simp only [Int.reducePow] at h ha hb hc
  first | (clear h hc; omega) | (clear h; omega) | omega

theorem like2_75 (val : Nat → Int) (h : Holds val [.is (.a 0) 0, .is (.wrap .i64 ylike2_3) 0, .at ylike2_26 false, .at ylike2_25 false, .is (.shr ylike2_4 32) 0, .at ylike2_14 false, .at ylike2_13 false, .at ylike2_20 true, .is ylike2_2 2, .ge (.a 0) (-9223372036854775808), .le (.a 0) 9223372036854775807]) : LikeQ val :=
  leafK h (by kernel_rfl)

theorem like2_76 (val : Nat → Int) (h : Holds val [.le (.a 0) (-2147483649), .ne (.a 0) 0, .is (.wrap .i64 ylike2_3) 0, .at ylike2_26 false, .at ylike2_25 false, .is (.shr ylike2_4 32) 0, .at ylike2_14 false, .at ylike2_13 false, .at ylike2_20 true, .is ylike2_2 2, .ge (.a 0) (-9223372036854775808), .le (.a 0) 9223372036854775807]) : LikeQ val :=
  leafK h (by kernel_rfl)

theorem like2_77 (val : Nat → Int) (h : Holds val [.ge (.a 0) 4294967296, .ge (.a 0) (-2147483648), .ne (.a 0) 0, .is (.wrap .i64 ylike2_3) 0, .at ylike2_26 false, .at ylike2_25 false, .is (.shr ylike2_4 32) 0, .at ylike2_14 false, .at ylike2_13 false, .at ylike2_20 true, .is ylike2_2 2, .ge (.a 0) (-9223372036854775808), .le (.a 0) 9223372036854775807]) : LikeQ val :=
  leafK h (by kernel_rfl)

theorem like2_78 (val : Nat → Int) (h : Holds val [.le (.a 0) 4294967295, .ge (.a 0) (-2147483648), .ne (.a 0) 0, .is (.wrap .i64 ylike2_3) 0, .at ylike2_26 false, .at ylike2_25 false, .is (.shr ylike2_4 32) 0, .at ylike2_14 false, .at ylike2_13 false, .at ylike2_20 true, .is ylike2_2 2, .ge (.a 0) (-9223372036854775808), .le (.a 0) 9223372036854775807]) : LikeQ val := by
  exfalso
  have hb : Holds val (List.drop 10 _) := fun f hf => h f (List.mem_of_mem_drop hf)
  have ha : Holds val (List.take 1 _) := fun f hf => h f (List.mem_of_mem_take hf)
  have hc : Holds val (List.take 2 _) := fun f hf => h f (List.mem_of_mem_take hf)
  simp only [List.take_succ_cons, List.take_zero, List.drop_succ_cons, List.drop_zero, Holds, List.forall_mem_cons, List.not_mem_nil, false_implies, implies_true, and_true, Fact.holds, SB.eval, SX.eval, ylike2_0, ylike2_1, ylike2_2, ylike2_3, ylike2_4, ylike2_5, ylike2_6, ylike2_7, ylike2_8, ylike2_9, ylike2_10, ylike2_11, ylike2_12, ylike2_13, ylike2_14, ylike2_15, ylike2_16, ylike2_17, ylike2_18, ylike2_19, ylike2_20, ylike2_21, ylike2_22, ylike2_23, ylike2_24, ylike2_25, ylike2_26, ylike2_27, ylike2_28, wrapU, wrapI, fdivP, tmodP, beq_iff_eq, beq_eq_false_iff_ne, decide_eq_true_eq, decide_eq_false_iff_not, ne_eq] at h ha hb hc
  simp only [Int.reducePow] at h ha hb hc
  first | (clear h hc; omega) | (clear h; omega) | omega

theorem like2_79 (val : Nat → Int) (h : Holds val [.ne (.wrap .i64 ylike2_3) 0, .at ylike2_26 false, .at ylike2_25 false, .is (.shr ylike2_4 32) 0, .at ylike2_14 false, .at ylike2_13 false, .at ylike2_20 true, .is ylike2_2 2, .ge (.a 0) (-9223372036854775808), .le (.a 0) 9223372036854775807]) : LikeQ val := by
  exfalso
  have hb : Holds val (List.drop 7 _) := fun f hf => h f (List.mem_of_mem_drop hf)
  have ha : Holds val (List.take 1 _) := fun f hf => h f (List.mem_of_mem_take hf)
  have hc : Holds val (List.take 2 _) := fun f hf => h f (List.mem_of_mem_take hf)
  simp only [List.take_succ_cons, List.take_zero, List.drop_succ_cons, List.drop_zero, Holds, List.forall_mem_cons, List.not_mem_nil, false_implies, implies_true, and_true, Fact.holds, SB.eval, SX.eval, ylike2_0, ylike2_1, ylike2_2, ylike2_3, ylike2_4, ylike2_5, ylike2_6, ylike2_7, ylike2_8, ylike2_9, ylike2_10, ylike2_11, ylike2_12, ylike2_13, ylike2_14, ylike2_15, ylike2_16, ylike2_17, ylike2_18, ylike2_19, ylike2_20, ylike2_21, ylike2_22, ylike2_23, ylike2_24, ylike2_25, ylike2_26, ylike2_27, ylike2_28, wrapU, wrapI, fdivP, tmodP, beq_iff_eq, beq_eq_false_iff_ne, decide_eq_true_eq, decide_eq_false_iff_not, ne_eq] at h ha hb hc
  simp only [Int.reducePow] at h ha hb hc
  first | (clear h hc; omega) | (clear h; omega) | omega

theorem like2_80 (val : Nat → Int) (h : Holds val [.ne (.shr ylike2_4 32) 0, .at ylike2_14 false, .at ylike2_13 false, .at ylike2_20 true, .is ylike2_2 2, .ge (.a 0) (-9223372036854775808), .le (.a 0) 9223372036854775807]) : LikeQ val := by
  exfalso
  have hb : Holds val (List.drop 4 _) := fun f hf => h f (List.mem_of_mem_drop hf)
  have ha : Holds val (List.take 1 _) := fun f hf => h f (List.mem_of_mem_take hf)
  have hc : Holds val (List.take 2 _) := fun f hf => h f (List.mem_of_mem_take hf)
  simp only [List.take_succ_cons, List.take_zero, List.drop_succ_cons, List.drop_zero, Holds, List.forall_mem_cons, List.not_mem_nil, false_implies, implies_true, and_true, Fact.holds, SB.eval, SX.eval, ylike2_0, ylike2_1, ylike2_2, ylike2_3, ylike2_4, ylike2_5, ylike2_6, ylike2_7, ylike2_8, ylike2_9, ylike2_10, ylike2_11, ylike2_12, ylike2_13, ylike2_14, ylike2_15, ylike2_16, ylike2_17, ylike2_18, ylike2_19, ylike2_20, ylike2_21, ylike2_22, ylike2_23, ylike2_24, ylike2_25, ylike2_26, ylike2_27, ylike2_28, wrapU, wrapI, fdivP, tmodP, beq_iff_eq, beq_eq_false_iff_ne, decide_eq_true_eq, decide_eq_false_iff_not, ne_eq] at h ha hb hc
  simp only [Int.reducePow] at h ha hb hc
  first | (clear h hc; omega) | (clear h; omega) | omega

theorem like2_81 (val : Nat → Int) (h : Holds val [.is ylike2_27 0, .is ylike2_28 0, .le (.wrap .i64 ylike2_3) 4294967295, .ge (.wrap .i64 ylike2_3) 0, .le (.shr ylike2_4 32) 2147483647, .ge (.shr ylike2_4 32) (-2147483648), .at ylike2_19 true, .at ylike2_23 true, .at ylike2_24 true, .at ylike2_25 true, .at ylike2_12 true, .at ylike2_13 true, .at ylike2_9 true, .at ylike2_20 false, .is ylike2_2 2, .ge (.a 0) (-9223372036854775808), .le (.a 0) 9223372036854775807]) : LikeQ val :=
  leafK h (by kernel_rfl)

theorem like2_82 (val : Nat → Int) (h : Holds val [.ne ylike2_27 0, .is ylike2_28 0, .le (.wrap .i64 ylike2_3) 4294967295, .ge (.wrap .i64 ylike2_3) 0, .le (.shr ylike2_4 32) 2147483647, .ge (.shr ylike2_4 32) (-2147483648), .at ylike2_19 true, .at ylike2_23 true, .at ylike2_24 true, .at ylike2_25 true, .at ylike2_12 true, .at ylike2_13 true, .at ylike2_9 true, .at ylike2_20 false, .is ylike2_2 2, .ge (.a 0) (-9223372036854775808), .le (.a 0) 9223372036854775807]) : LikeQ val := by
  exfalso
  have hb : Holds val (List.drop 14 _) := fun f hf => h f (List.mem_of_mem_drop hf)
  have ha : Holds val (List.take 1 _) := fun f hf => h f (List.mem_of_mem_take hf)
  have hc : Holds val (List.take 2 _) := fun f hf => h f (List.mem_of_mem_take hf)
  simp only [List.take_succ_cons, List.take_zero, List.drop_succ_cons, List.drop_zero, Holds, List.forall_mem_cons, List.not_mem_nil, false_implies, implies_true, and_true, Fact.holds, SB.eval, SX.eval, ylike2_0, ylike2_1, ylike2_2, ylike2_3, ylike2_4, ylike2_5, ylike2_6, ylike2_7, ylike2_8, ylike2_9, ylike2_10, ylike2_11, ylike2_12, ylike2_13, ylike2_14, ylike2_15, ylike2_16, ylike2_17, ylike2_18, ylike2_19, ylike2_20, ylike2_21, ylike2_22, ylike2_23, ylike2_24, ylike2_25, ylike2_26, ylike2_27, ylike2_28, wrapU, wrapI, fdivP, tmodP, beq_iff_eq, beq_eq_false_iff_ne, decide_eq_true_eq, decide_eq_false_iff_not, ne_eq] at h ha hb hc
  simp only [Int.reducePow] at h ha hb hc
  first | (clear h hc; omega) | (clear h; omega) | omega

theorem like2_83 (val : Nat → Int) (h : Holds val [.ne ylike2_28 0, .le (.wrap .i64 ylike2_3) 4294967295, .ge (.wrap .i64 ylike2_3) 0, .le (.shr ylike2_4 32) 2147483647, .ge (.shr ylike2_4 32) (-2147483648), .at ylike2_19 true, .at ylike2_23 true, .at ylike2_24 true, .at ylike2_25 true, .at ylike2_12 true, .at ylike2_13 true, .at ylike2_9 true, .at ylike2_20 false, .is ylike2_2 2, .ge (.a 0) (-9223372036854775808), .le (.a 0) 9223372036854775807]) : LikeQ val := by
  exfalso
  have hb : Holds val (List.drop 13 _) := fun f hf => h f (List.mem_of_mem_drop hf)
  have ha : Holds val (List.take 1 _) := fun f hf => h f (List.mem_of_mem_take hf)
  have hc : Holds val (List.take 2 _) := fun f hf => h f (List.mem_of_mem_take hf)
  simp only [List.take_succ_cons, List.take_zero, List.drop_succ_cons, List.drop_zero, Holds, List.forall_mem_cons, List.not_mem_nil, false_implies, implies_true, and_true, Fact.holds, SB.eval, SX.eval, ylike2_0, ylike2_1, ylike2_2, ylike2_3, ylike2_4, ylike2_5, ylike2_6, ylike2_7, ylike2_8, ylike2_9, ylike2_10, ylike2_11, ylike2_12, ylike2_13, ylike2_14, ylike2_15, ylike2_16, ylike2_17, ylike2_18, ylike2_19, ylike2_20, ylike2_21, ylike2_22, ylike2_23, ylike2_24, ylike2_25, ylike2_26, ylike2_27, ylike2_28, wrapU, wrapI, fdivP, tmodP, beq_iff_eq, beq_eq_false_iff_ne, decide_eq_true_eq, decide_eq_false_iff_not, ne_eq] at h ha hb hc
  simp only [Int.reducePow] at h ha hb hc
  first | (clear h hc; omega) | (clear h; omega) | omega

theorem like2_84 (val : Nat → Int) (h : Holds val [.ge (.wrap .i64 ylike2_3) 4294967296, .ge (.wrap .i64 ylike2_3) 0, .le (.shr ylike2_4 32) 2147483647, .ge (.shr ylike2_4 32) (-2147483648), .at ylike2_19 true, .at ylike2_23 true, .at ylike2_24 true, .at ylike2_25 true, .at ylike2_12 true, .at ylike2_13 true, .at ylike2_9 true, .at ylike2_20 false, .is ylike2_2 2, .ge (.a 0) (-9223372036854775808), .le (.a 0) 9223372036854775807]) : LikeQ val := by
  exfalso
  have hb : Holds val (List.drop 12 _) := fun f hf => h f (List.mem_of_mem_drop hf)
  have ha : Holds val (List.take 1 _) := fun f hf => h f (List.mem_of_mem_take hf)
  have hc : Holds val (List.take 2 _) := fun f hf => h f (List.mem_of_mem_take hf)
  simp only [List.take_succ_cons, List.take_zero, List.drop_succ_cons, List.drop_zero, Holds, List.forall_mem_cons, List.not_mem_nil, false_implies, implies_true, and_true, Fact.holds, SB.eval, SX.eval, ylike2_0, ylike2_1, ylike2_2, ylike2_3, ylike2_4, ylike2_5, ylike2_6, ylike2_7, ylike2_8, ylike2_9, ylike2_10, ylike2_11, ylike2_12, ylike2_13, ylike2_14, ylike2_15, ylike2_16, ylike2_17, ylike2_18, ylike2_19, ylike2_20, ylike2_21, ylike2_22, ylike2_23, ylike2_24, ylike2_25, ylike2_26, ylike2_27, ylike2_28, wrapU, wrapI, fdivP, tmodP, beq_iff_eq, beq_eq_false_iff_ne, decide_eq_true_eq, decide_eq_false_iff_not, ne_eq] at h ha hb hc
  simp only [Int.reducePow] at h ha hb hc
  first | (clear h hc; omega) | (clear h; omega) | omega

theorem like2_85 (val : Nat → Int) (h : Holds val [.le (.wrap .i64 ylike2_3) (-1), .le (.shr ylike2_4 32) 2147483647, .ge (.shr ylike2_4 32) (-2147483648), .at ylike2_19 true, .at ylike2_23 true, .at ylike2_24 true, .at ylike2_25 true, .at ylike2_12 true, .at ylike2_13 true, .at ylike2_9 true, .at ylike2_20 false, .is ylike2_2 2, .ge (.a 0) (-9223372036854775808), .le (.a 0) 9223372036854775807]) : LikeQ val := by
  exfalso
  have hb : Holds val (List.drop 11 _) := fun f hf => h f (List.mem_of_mem_drop hf)
  have ha : Holds val (List.take 1 _) := fun f hf => h f (List.mem_of_mem_take hf)
  have hc : Holds val (List.take 2 _) := fun f hf => h f (List.mem_of_mem_take hf)
  simp only [List.take_succ_cons, List.take_zero, List.drop_succ_cons, List.drop_zero, Holds, List.forall_mem_cons, List.not_mem_nil, false_implies, implies_true, and_true, Fact.holds, SB.eval, SX.eval, ylike2_0, ylike2_1, ylike2_2, ylike2_3, ylike2_4, ylike2_5, ylike2_6, ylike2_7, ylike2_8, ylike2_9, ylike2_10, ylike2_11, ylike2_12, ylike2_13, ylike2_14, ylike2_15, ylike2_16, ylike2_17, ylike2_18, ylike2_19, ylike2_20, ylike2_21, ylike2_22, ylike2_23, ylike2_24, ylike2_25, ylike2_26, ylike2_27, ylike2_28, wrapU, wrapI, fdivP, tmodP, beq_iff_eq, beq_eq_false_iff_ne, decide_eq_true_eq, decide_eq_false_iff_not, ne_eq] at h ha hb hc
  simp only [Int.reducePow] at h ha hb hc
  first | (clear h hc; omega) | (clear h; omega) | omega

theorem like2_86 (val : Nat → Int) (h : Holds val [.ge (.shr ylike2_4 32) 2147483648, .ge (.shr ylike2_4 32) (-2147483648), .at ylike2_19 true, .at ylike2_23 true, .at ylike2_24 true, .at ylike2_25 true, .at ylike2_12 true, .at ylike2_13 true, .at ylike2_9 true, .at ylike2_20 false, .is ylike2_2 2, .ge (.a 0) (-9223372036854775808), .le (.a 0) 9223372036854775807]) : LikeQ val := by
  exfalso
  have hb : Holds val (List.drop 10 _) := fun f hf => h f (List.mem_of_mem_drop hf)
  have ha : Holds val (List.take 1 _) := fun f hf => h f (List.mem_of_mem_take hf)
  have hc : Holds val (List.take 2 _) := fun f hf => h f (List.mem_of_mem_take hf)
  simp only [List.take_succ_cons, List.take_zero, List.drop_succ_cons, List.drop_zero, Holds, List.forall_mem_cons, List.not_mem_nil, false_implies, implies_true, and_true, Fact.holds, SB.eval, SX.eval, ylike2_0, ylike2_1, ylike2_2, ylike2_3, ylike2_4, ylike2_5, ylike2_6, ylike2_7, ylike2_8, ylike2_9, ylike2_10, ylike2_11, ylike2_12, ylike2_13, ylike2_14, ylike2_15, ylike2_16, ylike2_17, ylike2_18, ylike2_19, ylike2_20, ylike2_21, ylike2_22, ylike2_23, ylike2_24, ylike2_25, ylike2_26, ylike2_27, ylike2_28, wrapU, wrapI, fdivP, tmodP, beq_iff_eq, beq_eq_false_iff_ne, decide_eq_true_eq, decide_eq_false_iff_not, ne_eq] at h ha hb hc
  simp only [Int.reducePow] at h ha hb hc
  first | (clear h hc; omega) | (clear h; omega) | omega

theorem like2_87 (val : Nat → Int) (h : Holds val [.le (.shr ylike2_4 32) (-2147483649), .at ylike2_19 true, .at ylike2_23 true, .at ylike2_24 true, .at ylike2_25 true, .at ylike2_12 true, .at ylike2_13 true, .at ylike2_9 true, .at ylike2_20 false, .is ylike2_2 2, .ge (.a 0) (-9223372036854775808), .le (.a 0) 9223372036854775807]) : LikeQ val := by
  exfalso
  have hb : Holds val (List.drop 9 _) := fun f hf => h f (List.mem_of_mem_drop hf)
  have ha : Holds val (List.take 1 _) := fun f hf => h f (List.mem_of_mem_take hf)
  have hc : Holds val (List.take 2 _) := fun f hf => h f (List.mem_of_mem_take hf)
  simp only [List.take_succ_cons, List.take_zero, List.drop_succ_cons, List.drop_zero, Holds, List.forall_mem_cons, List.not_mem_nil, false_implies, implies_true, and_true, Fact.holds, SB.eval, SX.eval, ylike2_0, ylike2_1, ylike2_2, ylike2_3, ylike2_4, ylike2_5, ylike2_6, ylike2_7, ylike2_8, ylike2_9, ylike2_10, ylike2_11, ylike2_12, ylike2_13, ylike2_14, ylike2_15, ylike2_16, ylike2_17, ylike2_18, ylike2_19, ylike2_20, ylike2_21, ylike2_22, ylike2_23, ylike2_24, ylike2_25, ylike2_26, ylike2_27, ylike2_28, wrapU, wrapI, fdivP, tmodP, beq_iff_eq, beq_eq_false_iff_ne, decide_eq_true_eq, decide_eq_false_iff_not, ne_eq] at h ha hb hc
  simp only [Int.reducePow] at h ha hb hc
  first | (clear h hc; omega) | (clear h; omega) | omega

theorem like2_88 (val : Nat → Int) (h : Holds val [.at ylike2_19 false, .at ylike2_23 true, .at ylike2_24 true, .at ylike2_25 true, .at ylike2_12 true, .at ylike2_13 true, .at ylike2_9 true, .at ylike2_20 false, .is ylike2_2 2, .ge (.a 0) (-9223372036854775808), .le (.a 0) 9223372036854775807]) : LikeQ val := by
  exfalso
  have hb : Holds val (List.drop 8 _) := fun f hf => h f (List.mem_of_mem_drop hf)
  have ha : Holds val (List.take 1 _) := fun f hf => h f (List.mem_of_mem_take hf)
  have hc : Holds val (List.take 2 _) := fun f hf => h f (List.mem_of_mem_take hf)
  simp only [List.take_succ_cons, List.take_zero, List.drop_succ_cons, List.drop_zero, Holds, List.forall_mem_cons, List.not_mem_nil, false_implies, implies_true, and_true, Fact.holds, SB.eval, SX.eval, ylike2_0, ylike2_1, ylike2_2, ylike2_3, ylike2_4, ylike2_5, ylike2_6, ylike2_7, ylike2_8, ylike2_9, ylike2_10, ylike2_11, ylike2_12, ylike2_13, ylike2_14, ylike2_15, ylike2_16, ylike2_17, ylike2_18, ylike2_19, ylike2_20, ylike2_21, ylike2_22, ylike2_23, ylike2_24, ylike2_25, ylike2_26, ylike2_27, ylike2_28, wrapU, wrapI, fdivP, tmodP, beq_iff_eq, beq_eq_false_iff_ne, decide_eq_true_eq, decide_eq_false_iff_not, ne_eq] at h ha hb hc
  simp only [Int.reducePow] at h ha hb hc
  first | (clear h hc; omega) | (clear h; omega) | omega

theorem like2_89 (val : Nat → Int) (h : Holds val [.at ylike2_23 false, .at ylike2_24 true, .at ylike2_25 true, .at ylike2_12 true, .at ylike2_13 true, .at ylike2_9 true, .at ylike2_20 false, .is ylike2_2 2, .ge (.a 0) (-9223372036854775808), .le (.a 0) 9223372036854775807]) : LikeQ val := by
  exfalso
  have hb : Holds val (List.drop 7 _) := fun f hf => h f (List.mem_of_mem_drop hf)
  have ha : Holds val (List.take 1 _) := fun f hf => h f (List.mem_of_mem_take hf)
  have hc : Holds val (List.take 2 _) := fun f hf => h f (List.mem_of_mem_take hf)
  simp only [List.take_succ_cons, List.take_zero, List.drop_succ_cons, List.drop_zero, Holds, List.forall_mem_cons, List.not_mem_nil, false_implies, implies_true, and_true, Fact.holds, SB.eval, SX.eval, ylike2_0, ylike2_1, ylike2_2, ylike2_3, ylike2_4, ylike2_5, ylike2_6, ylike2_7, ylike2_8, ylike2_9, ylike2_10, ylike2_11, ylike2_12, ylike2_13, ylike2_14, ylike2_15, ylike2_16, ylike2_17, ylike2_18, ylike2_19, ylike2_20, ylike2_21, ylike2_22, ylike2_23, ylike2_24, ylike2_25, ylike2_26, ylike2_27, ylike2_28, wrapU, wrapI, fdivP, tmodP, beq_iff_eq, beq_eq_false_iff_ne, decide_eq_true_eq, decide_eq_false_iff_not, ne_eq] at h ha hb hc
  simp only [Int.reducePow] at h ha hb hc
  first | (clear h hc; omega) | (clear h; omega) | omega

theorem like2_90 (val : Nat → Int) (h : Holds val [.at ylike2_24 false, .at ylike2_25 true, .at ylike2_12 true, .at ylike2_13 true, .at ylike2_9 true, .at ylike2_20 false, .is ylike2_2 2, .ge (.a 0) (-9223372036854775808), .le (.a 0) 9223372036854775807]) : LikeQ val := by
  exfalso
  have hb : Holds val (List.drop 6 _) := fun f hf => h f (List.mem_of_mem_drop hf)
  have ha : Holds val (List.take 1 _) := fun f hf => h f (List.mem_of_mem_take hf)
  have hc : Holds val (List.take 2 _) := fun f hf => h f (List.mem_of_mem_take hf)
  simp only [List.take_succ_cons, List.take_zero, List.drop_succ_cons, List.drop_zero, Holds, List.forall_mem_cons, List.not_mem_nil, false_implies, implies_true, and_true, Fact.holds, SB.eval, SX.eval, ylike2_0, ylike2_1, ylike2_2, ylike2_3, ylike2_4, ylike2_5, ylike2_6, ylike2_7, ylike2_8, ylike2_9, ylike2_10, ylike2_11, ylike2_12, ylike2_13, ylike2_14, ylike2_15, ylike2_16, ylike2_17, ylike2_18, ylike2_19, ylike2_20, ylike2_21, ylike2_22, ylike2_23, ylike2_24, ylike2_25, ylike2_26, ylike2_27, ylike2_28, wrapU, wrapI, fdivP, tmodP, beq_iff_eq, beq_eq_false_iff_ne, decide_eq_true_eq, decide_eq_false_iff_not, ne_eq] at h ha hb hc
  simp only [Int.reducePow] at h ha hb hc
  first | (clear h hc; omega) | (clear h; omega) | omega

theorem like2_91 (val : Nat → Int) (h : Holds val [.is ylike2_27 0, .is ylike2_28 0, .le (.wrap .i64 ylike2_3) 4294967295, .ge (.wrap .i64 ylike2_3) 0, .le (.shr ylike2_4 32) 2147483647, .ge (.shr ylike2_4 32) (-2147483648), .at ylike2_19 true, .at ylike2_23 true, .at ylike2_24 true, .at ylike2_26 true, .at ylike2_25 false, .at ylike2_12 true, .at ylike2_13 true, .at ylike2_9 true, .at ylike2_20 false, .is ylike2_2 2, .ge (.a 0) (-9223372036854775808), .le (.a 0) 9223372036854775807]) : LikeQ val :=
  leafK h (by kernel_rfl)

theorem like2_92 (val : Nat → Int) (h : Holds val [.ne ylike2_27 0, .is ylike2_28 0, .le (.wrap .i64 ylike2_3) 4294967295, .ge (.wrap .i64 ylike2_3) 0, .le (.shr ylike2_4 32) 2147483647, .ge (.shr ylike2_4 32) (-2147483648), .at ylike2_19 true, .at ylike2_23 true, .at ylike2_24 true, .at ylike2_26 true, .at ylike2_25 false, .at ylike2_12 true, .at ylike2_13 true, .at ylike2_9 true, .at ylike2_20 false, .is ylike2_2 2, .ge (.a 0) (-9223372036854775808), .le (.a 0) 9223372036854775807]) : LikeQ val := by
  exfalso
  have hb : Holds val (List.drop 15 _) := fun f hf => h f (List.mem_of_mem_drop hf)
  have ha : Holds val (List.take 1 _) := fun f hf => h f (List.mem_of_mem_take hf)
  have hc : Holds val (List.take 2 _) := fun f hf => h f (List.mem_of_mem_take hf)
  simp only [List.take_succ_cons, List.take_zero, List.drop_succ_cons, List.drop_zero, Holds, List.forall_mem_cons, List.not_mem_nil, false_implies, implies_true, and_true, Fact.holds, SB.eval, SX.eval, ylike2_0, ylike2_1, ylike2_2, ylike2_3, ylike2_4, ylike2_5, ylike2_6, ylike2_7, ylike2_8, ylike2_9, ylike2_10, ylike2_11, ylike2_12, ylike2_13, ylike2_14, ylike2_15, ylike2_16, ylike2_17, ylike2_18, ylike2_19, ylike2_20, ylike2_21, ylike2_22, ylike2_23, ylike2_24, ylike2_25, ylike2_26, ylike2_27, ylike2_28, wrapU, wrapI, fdivP, tmodP, beq_iff_eq, beq_eq_false_iff_ne, decide_eq_true_eq, decide_eq_false_iff_not, ne_eq] at h ha hb hc
  simp only [Int.reducePow] at h ha hb hc
  first | (clear h hc; omega) | (clear h; omega) | omega

theorem like2_93 (val : Nat → Int) (h : Holds val [.ne ylike2_28 0, .le (.wrap .i64 ylike2_3) 4294967295, .ge (.wrap .i64 ylike2_3) 0, .le (.shr ylike2_4 32) 2147483647, .ge (.shr ylike2_4 32) (-2147483648), .at ylike2_19 true, .at ylike2_23 true, .at ylike2_24 true, .at ylike2_26 true, .at ylike2_25 false, .at ylike2_12 true, .at ylike2_13 true, .at ylike2_9 true, .at ylike2_20 false, .is ylike2_2 2, .ge (.a 0) (-9223372036854775808), .le (.a 0) 9223372036854775807]) : LikeQ val := by
  exfalso
  have hb : Holds val (List.drop 14 _) := fun f hf => h f (List.mem_of_mem_drop hf)
  have ha : Holds val (List.take 1 _) := fun f hf => h f (List.mem_of_mem_take hf)
  have hc : Holds val (List.take 2 _) := fun f hf => h f (List.mem_of_mem_take hf)
  simp only [List.take_succ_cons, List.take_zero, List.drop_succ_cons, List.drop_zero, Holds, List.forall_mem_cons, List.not_mem_nil, false_implies, implies_true, and_true, Fact.holds, SB.eval, SX.eval, ylike2_0, ylike2_1, ylike2_2, ylike2_3, ylike2_4, ylike2_5, ylike2_6, ylike2_7, ylike2_8, ylike2_9, ylike2_10, ylike2_11, ylike2_12, ylike2_13, ylike2_14, ylike2_15, ylike2_16, ylike2_17, ylike2_18, ylike2_19, ylike2_20, ylike2_21, ylike2_22, ylike2_23, ylike2_24, ylike2_25, ylike2_26, ylike2_27, ylike2_28, wrapU, wrapI, fdivP, tmodP, beq_iff_eq, beq_eq_false_iff_ne, decide_eq_true_eq, decide_eq_false_iff_not, ne_eq] at h ha hb hc
  simp only [Int.reducePow] at h ha hb hc
  first | (clear h hc; omega) | (clear h; omega) | omega

theorem like2_94 (val : Nat → Int) (h : Holds val [.ge (.wrap .i64 ylike2_3) 4294967296, .ge (.wrap .i64 ylike2_3) 0, .le (.shr ylike2_4 32) 2147483647, .ge (.shr ylike2_4 32) (-2147483648), .at ylike2_19 true, .at ylike2_23 true, .at ylike2_24 true, .at ylike2_26 true, .at ylike2_25 false, .at ylike2_12 true, .at ylike2_13 true, .at ylike2_9 true, .at ylike2_20 false, .is ylike2_2 2, .ge (.a 0) (-9223372036854775808), .le (.a 0) 9223372036854775807]) : LikeQ val := by
  exfalso
  have hb : Holds val (List.drop 13 _) := fun f hf => h f (List.mem_of_mem_drop hf)
  have ha : Holds val (List.take 1 _) := fun f hf => h f (List.mem_of_mem_take hf)
  have hc : Holds val (List.take 2 _) := fun f hf => h f (List.mem_of_mem_take hf)
  simp only [List.take_succ_cons, List.take_zero, List.drop_succ_cons, List.drop_zero, Holds, List.forall_mem_cons, List.not_mem_nil, false_implies, implies_true, and_true, Fact.holds, SB.eval, SX.eval, ylike2_0, ylike2_1, ylike2_2, ylike2_3, ylike2_4, ylike2_5, ylike2_6, ylike2_7, ylike2_8, ylike2_9, ylike2_10, ylike2_11, ylike2_12, ylike2_13, ylike2_14, ylike2_15, ylike2_16, ylike2_17, ylike2_18, ylike2_19, ylike2_20, ylike2_21, ylike2_22, ylike2_23, ylike2_24, ylike2_25, ylike2_26, ylike2_27, ylike2_28, wrapU, wrapI, fdivP, tmodP, beq_iff_eq, beq_eq_false_iff_ne, decide_eq_true_eq, decide_eq_false_iff_not, ne_eq] at h ha hb hc
  simp only [Int.reducePow] at h ha hb hc
  first | (clear h hc; omega) | (clear h; omega) | omega

theorem like2_95 (val : Nat → Int) (h : Holds val [.le (.wrap .i64 ylike2_3) (-1), .le (.shr ylike2_4 32) 2147483647, .ge (.shr ylike2_4 32) (-2147483648), .at ylike2_19 true, .at ylike2_23 true, .at ylike2_24 true, .at ylike2_26 true, .at ylike2_25 false, .at ylike2_12 true, .at ylike2_13 true, .at ylike2_9 true, .at ylike2_20 false, .is ylike2_2 2, .ge (.a 0) (-9223372036854775808), .le (.a 0) 9223372036854775807]) : LikeQ val := by
  exfalso
  have hb : Holds val (List.drop 12 _) := fun f hf => h f (List.mem_of_mem_drop hf)
  have ha : Holds val (List.take 1 _) := fun f hf => h f (List.mem_of_mem_take hf)
  have hc : Holds val (List.take 2 _) := fun f hf => h f (List.mem_of_mem_take hf)
  simp only [List.take_succ_cons, List.take_zero, List.drop_succ_cons, List.drop_zero, Holds, List.forall_mem_cons, List.not_mem_nil, false_implies, implies_true, and_true, Fact.holds, SB.eval, SX.eval, ylike2_0, ylike2_1, ylike2_2, ylike2_3, ylike2_4, ylike2_5, ylike2_6, ylike2_7, ylike2_8, ylike2_9, ylike2_10, ylike2_11, ylike2_12, ylike2_13, ylike2_14, ylike2_15, ylike2_16, ylike2_17, ylike2_18, ylike2_19, ylike2_20, ylike2_21, ylike2_22, ylike2_23, ylike2_24, ylike2_25, ylike2_26, ylike2_27, ylike2_28, wrapU, wrapI, fdivP, tmodP, beq_iff_eq, beq_eq_false_iff_ne, decide_eq_true_eq, decide_eq_false_iff_not, ne_eq] at h ha hb hc
  simp only [Int.reducePow] at h ha hb hc
  first | (clear h hc; omega) | (clear h; omega) | omega

theorem like2_96 (val : Nat → Int) (h : Holds val [.ge (.shr ylike2_4 32) 2147483648, .ge (.shr ylike2_4 32) (-2147483648), .at ylike2_19 true, .at ylike2_23 true, .at ylike2_24 true, .at ylike2_26 true, .at ylike2_25 false, .at ylike2_12 true, .at ylike2_13 true, .at ylike2_9 true, .at ylike2_20 false, .is ylike2_2 2, .ge (.a 0) (-9223372036854775808), .le (.a 0) 9223372036854775807]) : LikeQ val := by
  exfalso
  have hb : Holds val (List.drop 11 _) := fun f hf => h f (List.mem_of_mem_drop hf)
  have ha : Holds val (List.take 1 _) := fun f hf => h f (List.mem_of_mem_take hf)
  have hc : Holds val (List.take 2 _) := fun f hf => h f (List.mem_of_mem_take hf)
  simp only [List.take_succ_cons, List.take_zero, List.drop_succ_cons, List.drop_zero, Holds, List.forall_mem_cons, List.not_mem_nil, false_implies, implies_true, and_true, Fact.holds, SB.eval, SX.eval, ylike2_0, ylike2_1, ylike2_2, ylike2_3, ylike2_4, ylike2_5, ylike2_6, ylike2_7, ylike2_8, ylike2_9, ylike2_10, ylike2_11, ylike2_12, ylike2_13, ylike2_14, ylike2_15, ylike2_16, ylike2_17, ylike2_18, ylike2_19, ylike2_20, ylike2_21, ylike2_22, ylike2_23, ylike2_24, ylike2_25, ylike2_26, ylike2_27, ylike2_28, wrapU, wrapI, fdivP, tmodP, beq_iff_eq, beq_eq_false_iff_ne, decide_eq_true_eq, decide_eq_false_iff_not, ne_eq] at h ha hb hc
  simp only [Int.reducePow] at h ha hb hc
  first | (clear h hc; omega) | (clear h; omega) | omega

theorem like2_97 (val : Nat → Int) (h : Holds val [.le (.shr ylike2_4 32) (-2147483649), .at ylike2_19 true, .at ylike2_23 true, .at ylike2_24 true, .at ylike2_26 true, .at ylike2_25 false, .at ylike2_12 true, .at ylike2_13 true, .at ylike2_9 true, .at ylike2_20 false, .is ylike2_2 2, .ge (.a 0) (-9223372036854775808), .le (.a 0) 9223372036854775807]) : LikeQ val := by
  exfalso
  have hb : Holds val (List.drop 10 _) := fun f hf => h f (List.mem_of_mem_drop hf)
  have ha : Holds val (List.take 1 _) := fun f hf => h f (List.mem_of_mem_take hf)
  have hc : Holds val (List.take 2 _) := fun f hf => h f (List.mem_of_mem_take hf)
  simp only [List.take_succ_cons, List.take_zero, List.drop_succ_cons, List.drop_zero, Holds, List.forall_mem_cons, List.not_mem_nil, false_implies, implies_true, and_true, Fact.holds, SB.eval, SX.eval, ylike2_0, ylike2_1, ylike2_2, ylike2_3, ylike2_4, ylike2_5, ylike2_6, ylike2_7, ylike2_8, ylike2_9, ylike2_10, ylike2_11, ylike2_12, ylike2_13, ylike2_14, ylike2_15, ylike2_16, ylike2_17, ylike2_18, ylike2_19, ylike2_20, ylike2_21, ylike2_22, ylike2_23, ylike2_24, ylike2_25, ylike2_26, ylike2_27, ylike2_28, wrapU, wrapI, fdivP, tmodP, beq_iff_eq, beq_eq_false_iff_ne, decide_eq_true_eq, decide_eq_false_iff_not, ne_eq] at h ha hb hc
  simp only [Int.reducePow] at h ha hb hc
  first | (clear h hc; omega) | (clear h; omega) | omega

theorem like2_98 (val : Nat → Int) (h : Holds val [.at ylike2_19 false, .at ylike2_23 true, .at ylike2_24 true, .at ylike2_26 true, .at ylike2_25 false, .at ylike2_12 true, .at ylike2_13 true, .at ylike2_9 true, .at ylike2_20 false, .is ylike2_2 2, .ge (.a 0) (-9223372036854775808), .le (.a 0) 9223372036854775807]) : LikeQ val := by
  exfalso
  have hb : Holds val (List.drop 9 _) := fun f hf => h f (List.mem_of_mem_drop hf)
  have ha : Holds val (List.take 1 _) := fun f hf => h f (List.mem_of_mem_take hf)
  have hc : Holds val (List.take 2 _) := fun f hf => h f (List.mem_of_mem_take hf)
  simp only [List.take_succ_cons, List.take_zero, List.drop_succ_cons, List.drop_zero, Holds, List.forall_mem_cons, List.not_mem_nil, false_implies, implies_true, and_true, Fact.holds, SB.eval, SX.eval, ylike2_0, ylike2_1, ylike2_2, ylike2_3, ylike2_4, ylike2_5, ylike2_6, ylike2_7, ylike2_8, ylike2_9, ylike2_10, ylike2_11, ylike2_12, ylike2_13, ylike2_14, ylike2_15, ylike2_16, ylike2_17, ylike2_18, ylike2_19, ylike2_20, ylike2_21, ylike2_22, ylike2_23, ylike2_24, ylike2_25, ylike2_26, ylike2_27, ylike2_28, wrapU, wrapI, fdivP, tmodP, beq_iff_eq, beq_eq_false_iff_ne, decide_eq_true_eq, decide_eq_false_iff_not, ne_eq] at h ha hb hc
  simp only [Int.reducePow] at h ha hb hc
  first | (clear h hc; omega) | (clear h; omega) | omega

theorem like2_99 (val : Nat → Int) (h : Holds val [.at ylike2_23 false, .at ylike2_24 true, .at ylike2_26 true, .at ylike2_25 false, .at ylike2_12 true, .at ylike2_13 true, .at ylike2_9 true, .at ylike2_20 false, .is ylike2_2 2, .ge (.a 0) (-9223372036854775808), .le (.a 0) 9223372036854775807]) : LikeQ val := by
  exfalso
  have hb : Holds val (List.drop 8 _) := fun f hf => h f (List.mem_of_mem_drop hf)
  have ha : Holds val (List.take 1 _) := fun f hf => h f (List.mem_of_mem_take hf)
  have hc : Holds val (List.take 2 _) := fun f hf => h f (List.mem_of_mem_take hf)
  simp only [List.take_succ_cons, List.take_zero, List.drop_succ_cons, List.drop_zero, Holds, List.forall_mem_cons, List.not_mem_nil, false_implies, implies_true, and_true, Fact.holds, SB.eval, SX.eval, ylike2_0, ylike2_1, ylike2_2, ylike2_3, ylike2_4, ylike2_5, ylike2_6, ylike2_7, ylike2_8, ylike2_9, ylike2_10, ylike2_11, ylike2_12, ylike2_13, ylike2_14, ylike2_15, ylike2_16, ylike2_17, ylike2_18, ylike2_19, ylike2_20, ylike2_21, ylike2_22, ylike2_23, ylike2_24, ylike2_25, ylike2_26, ylike2_27, ylike2_28, wrapU, wrapI, fdivP, tmodP, beq_iff_eq, beq_eq_false_iff_ne, decide_eq_true_eq, decide_eq_false_iff_not, ne_eq] at h ha hb hc
  simp only [Int.reducePow] at h ha hb hc
  first | (clear h hc; omega) | (clear h; omega) | omega

theorem like2_100 (val : Nat → Int) (h : Holds val [.at ylike2_24 false, .at ylike2_26 true, .at ylike2_25 false, .at ylike2_12 true, .at ylike2_13 true, .at ylike2_9 true, .at ylike2_20 false, .is ylike2_2 2, .ge (.a 0) (-9223372036854775808), .le (.a 0) 9223372036854775807]) : LikeQ val := by
  exfalso
  have hb : Holds val (List.drop 7 _) := fun f hf => h f (List.mem_of_mem_drop hf)
  have ha : Holds val (List.take 1 _) := fun f hf => h f (List.mem_of_mem_take hf)
  have hc : Holds val (List.take 2 _) := fun f hf => h f (List.mem_of_mem_take hf)
  simp only [List.take_succ_cons, List.take_zero, List.drop_succ_cons, List.drop_zero, Holds, List.forall_mem_cons, List.not_mem_nil, false_implies, implies_true, and_true, Fact.holds, SB.eval, SX.eval, ylike2_0, ylike2_1, ylike2_2, ylike2_3, ylike2_4, ylike2_5, ylike2_6, ylike2_7, ylike2_8, ylike2_9, ylike2_10, ylike2_11, ylike2_12, ylike2_13, ylike2_14, ylike2_15, ylike2_16, ylike2_17, ylike2_18, ylike2_19, ylike2_20, ylike2_21, ylike2_22, ylike2_23, ylike2_24, ylike2_25, ylike2_26, ylike2_27, ylike2_28, wrapU, wrapI, fdivP, tmodP, beq_iff_eq, beq_eq_false_iff_ne, decide_eq_true_eq, decide_eq_false_iff_not, ne_eq] at h ha hb hc
  simp only [Int.reducePow] at h ha hb hc
  first | (clear h hc; omega) | (clear h; omega) | omega

theorem like2_101 (val : Nat → Int) (h : Holds val [.is (.a 0) 0, .is (.wrap .i64 ylike2_3) 0, .at ylike2_26 false, .at ylike2_25 false, .at ylike2_12 true, .at ylike2_13 true, .at ylike2_9 true, .at ylike2_20 false, .is ylike2_2 2, .ge (.a 0) (-9223372036854775808), .le (.a 0) 9223372036854775807]) : LikeQ val :=
  leafK h (by kernel_rfl)

theorem like2_102 (val : Nat → Int) (h : Holds val [.le (.a 0) (-2147483649), .is (.shr ylike2_4 32) 0, .is ylike2_7 0, .ne (.a 0) 0, .is (.wrap .i64 ylike2_3) 0, .at ylike2_26 false, .at ylike2_25 false, .at ylike2_12 true, .at ylike2_13 true, .at ylike2_9 true, .at ylike2_20 false, .is ylike2_2 2, .ge (.a 0) (-9223372036854775808), .le (.a 0) 9223372036854775807]) : LikeQ val :=
  leafK h (by kernel_rfl)

theorem like2_103 (val : Nat → Int) (h : Holds val [.ge (.a 0) 4294967296, .ge (.a 0) (-2147483648), .is (.shr ylike2_4 32) 0, .is ylike2_7 0, .ne (.a 0) 0, .is (.wrap .i64 ylike2_3) 0, .at ylike2_26 false, .at ylike2_25 false, .at ylike2_12 true, .at ylike2_13 true, .at ylike2_9 true, .at ylike2_20 false, .is ylike2_2 2, .ge (.a 0) (-9223372036854775808), .le (.a 0) 9223372036854775807]) : LikeQ val :=
  leafK h (by kernel_rfl)

theorem like2_104 (val : Nat → Int) (h : Holds val [.le (.a 0) 4294967295, .ge (.a 0) (-2147483648), .is (.shr ylike2_4 32) 0, .is ylike2_7 0, .ne (.a 0) 0, .is (.wrap .i64 ylike2_3) 0, .at ylike2_26 false, .at ylike2_25 false, .at ylike2_12 true, .at ylike2_13 true, .at ylike2_9 true, .at ylike2_20 false, .is ylike2_2 2, .ge (.a 0) (-9223372036854775808), .le (.a 0) 9223372036854775807]) : LikeQ val := by
  exfalso
  have hb : Holds val (List.drop 12 _) := fun f hf => h f (List.mem_of_mem_drop hf)
  have ha : Holds val (List.take 1 _) := fun f hf => h f (List.mem_of_mem_take hf)
  have hc : Holds val (List.take 2 _) := fun f hf => h f (List.mem_of_mem_take hf)
  simp only [List.take_succ_cons, List.take_zero, List.drop_succ_cons, List.drop_zero, Holds, List.forall_mem_cons, List.not_mem_nil, false_implies, implies_true, and_true, Fact.holds, SB.eval, SX.eval, ylike2_0, ylike2_1, ylike2_2, ylike2_3, ylike2_4, ylike2_5, ylike2_6, ylike2_7, ylike2_8, ylike2_9, ylike2_10, ylike2_11, ylike2_12, ylike2_13, ylike2_14, ylike2_15, ylike2_16, ylike2_17, ylike2_18, ylike2_19, ylike2_20, ylike2_21, ylike2_22, ylike2_23, ylike2_24, ylike2_25, ylike2_26, ylike2_27, ylike2_28, wrapU, wrapI, fdivP, tmodP, beq_iff_eq, beq_eq_false_iff_ne, decide_eq_true_eq, decide_eq_false_iff_not, ne_eq] at h ha hb hc
  simp only [Int.reducePow] at h ha hb hc
  first | (clear h hc; omega) | (clear h; omega) | omega

theorem like2_105 (val : Nat → Int) (h : Holds val [.at ylike2_14 true, .ne (.shr ylike2_4 32) 0, .is ylike2_7 0, .ne (.a 0) 0, .is (.wrap .i64 ylike2_3) 0, .at ylike2_26 false, .at ylike2_25 false, .at ylike2_12 true, .at ylike2_13 true, .at ylike2_9 true, .at ylike2_20 false, .is ylike2_2 2, .ge (.a 0) (-9223372036854775808), .le (.a 0) 9223372036854775807]) : LikeQ val := by
  exfalso
  have hb : Holds val (List.drop 11 _) := fun f hf => h f (List.mem_of_mem_drop hf)
  have ha : Holds val (List.take 1 _) := fun f hf => h f (List.mem_of_mem_take hf)
  have hc : Holds val (List.take 2 _) := fun f hf => h f (List.mem_of_mem_take hf)
  simp only [List.take_succ_cons, List.take_zero, List.drop_succ_cons, List.drop_zero, Holds, List.forall_mem_cons, List.not_mem_nil, false_implies, implies_true, and_true, Fact.holds, SB.eval, SX.eval, ylike2_0, ylike2_1, ylike2_2, ylike2_3, ylike2_4, ylike2_5, ylike2_6, ylike2_7, ylike2_8, ylike2_9, ylike2_10, ylike2_11, ylike2_12, ylike2_13, ylike2_14, ylike2_15, ylike2_16, ylike2_17, ylike2_18, ylike2_19, ylike2_20, ylike2_21, ylike2_22, ylike2_23, ylike2_24, ylike2_25, ylike2_26, ylike2_27, ylike2_28, wrapU, wrapI, fdivP, tmodP, beq_iff_eq, beq_eq_false_iff_ne, decide_eq_true_eq, decide_eq_false_iff_not, ne_eq] at h ha hb hc
  simp only [Int.reducePow] at h ha hb hc
  first | (clear h hc; omega) | (clear h; omega) | omega

theorem like2_106 (val : Nat → Int) (h : Holds val [.at ylike2_14 false, .ne (.shr ylike2_4 32) 0, .is ylike2_7 0, .ne (.a 0) 0, .is (.wrap .i64 ylike2_3) 0, .at ylike2_26 false, .at ylike2_25 false, .at ylike2_12 true, .at ylike2_13 true, .at ylike2_9 true, .at ylike2_20 false, .is ylike2_2 2, .ge (.a 0) (-9223372036854775808), .le (.a 0) 9223372036854775807]) : LikeQ val := by
  exfalso
  have hb : Holds val (List.drop 11 _) := fun f hf => h f (List.mem_of_mem_drop hf)
  have ha : Holds val (List.take 1 _) := fun f hf => h f (List.mem_of_mem_take hf)
  have hc : Holds val (List.take 2 _) := fun f hf => h f (List.mem_of_mem_take hf)
  simp only [List.take_succ_cons, List.take_zero, List.drop_succ_cons, List.drop_zero, Holds, List.forall_mem_cons, List.not_mem_nil, false_implies, implies_true, and_true, Fact.holds, SB.eval, SX.eval, ylike2_0, ylike2_1, ylike2_2, ylike2_3, ylike2_4, ylike2_5, ylike2_6, ylike2_7, ylike2_8, ylike2_9, ylike2_10, ylike2_11, ylike2_12, ylike2_13, ylike2_14, ylike2_15, ylike2_16, ylike2_17, ylike2_18, ylike2_19, ylike2_20, ylike2_21, ylike2_22, ylike2_23, ylike2_24, ylike2_25, ylike2_26, ylike2_27, ylike2_28, wrapU, wrapI, fdivP, tmodP, beq_iff_eq, beq_eq_false_iff_ne, decide_eq_true_eq, decide_eq_false_iff_not, ne_eq] at h ha hb hc
  simp only [Int.reducePow] at h ha hb hc
  first | (clear h hc; omega) | (clear h; omega) | omega

theorem like2_107 (val : Nat → Int) (h : Holds val [.ne ylike2_7 0, .ne (.a 0) 0, .is (.wrap .i64 ylike2_3) 0, .at ylike2_26 false, .at ylike2_25 false, .at ylike2_12 true, .at ylike2_13 true, .at ylike2_9 true, .at ylike2_20 false, .is ylike2_2 2, .ge (.a 0) (-9223372036854775808), .le (.a 0) 9223372036854775807]) : LikeQ val := by
  exfalso
  have hb : Holds val (List.drop 9 _) := fun f hf => h f (List.mem_of_mem_drop hf)
  have ha : Holds val (List.take 1 _) := fun f hf => h f (List.mem_of_mem_take hf)
  have hc : Holds val (List.take 2 _) := fun f hf => h f (List.mem_of_mem_take hf)
  simp only [List.take_succ_cons, List.take_zero, List.drop_succ_cons, List.drop_zero, Holds, List.forall_mem_cons, List.not_mem_nil, false_implies, implies_true, and_true, Fact.holds, SB.eval, SX.eval, ylike2_0, ylike2_1, ylike2_2, ylike2_3, ylike2_4, ylike2_5, ylike2_6, ylike2_7, ylike2_8, ylike2_9, ylike2_10, ylike2_11, ylike2_12, ylike2_13, ylike2_14, ylike2_15, ylike2_16, ylike2_17, ylike2_18, ylike2_19, ylike2_20, ylike2_21, ylike2_22, ylike2_23, ylike2_24, ylike2_25, ylike2_26, ylike2_27, ylike2_28, wrapU, wrapI, fdivP, tmodP, beq_iff_eq, beq_eq_false_iff_ne, decide_eq_true_eq, decide_eq_false_iff_not, ne_eq] at h ha hb hc
  simp only [Int.reducePow] at h ha hb hc
  first | (clear h hc; omega) | (clear h; omega) | omega

theorem like2_108 (val : Nat → Int) (h : Holds val [.ne (.wrap .i64 ylike2_3) 0, .at ylike2_26 false, .at ylike2_25 false, .at ylike2_12 true, .at ylike2_13 true, .at ylike2_9 true, .at ylike2_20 false, .is ylike2_2 2, .ge (.a 0) (-9223372036854775808), .le (.a 0) 9223372036854775807]) : LikeQ val := by
  exfalso
  have hb : Holds val (List.drop 7 _) := fun f hf => h f (List.mem_of_mem_drop hf)
  have ha : Holds val (List.take 1 _) := fun f hf => h f (List.mem_of_mem_take hf)
  have hc : Holds val (List.take 2 _) := fun f hf => h f (List.mem_of_mem_take hf)
  simp only [List.take_succ_cons, List.take_zero, List.drop_succ_cons, List.drop_zero, Holds, List.forall_mem_cons, List.not_mem_nil, false_implies, implies_true, and_true, Fact.holds, SB.eval, SX.eval, ylike2_0, ylike2_1, ylike2_2, ylike2_3, ylike2_4, ylike2_5, ylike2_6, ylike2_7, ylike2_8, ylike2_9, ylike2_10, ylike2_11, ylike2_12, ylike2_13, ylike2_14, ylike2_15, ylike2_16, ylike2_17, ylike2_18, ylike2_19, ylike2_20, ylike2_21, ylike2_22, ylike2_23, ylike2_24, ylike2_25, ylike2_26, ylike2_27, ylike2_28, wrapU, wrapI, fdivP, tmodP, beq_iff_eq, beq_eq_false_iff_ne, decide_eq_true_eq, decide_eq_false_iff_not, ne_eq] at h ha hb hc
  simp only [Int.reducePow] at h ha hb hc
  first | (clear h hc; omega) | (clear h; omega) | omega

theorem like2_109 (val : Nat → Int) (h : Holds val [.at ylike2_12 false, .at ylike2_13 true, .at ylike2_9 true, .at ylike2_20 false, .is ylike2_2 2, .ge (.a 0) (-9223372036854775808), .le (.a 0) 9223372036854775807]) : LikeQ val := by
  exfalso
  have hb : Holds val (List.drop 4 _) := fun f hf => h f (List.mem_of_mem_drop hf)
  have ha : Holds val (List.take 1 _) := fun f hf => h f (List.mem_of_mem_take hf)
  have hc : Holds val (List.take 2 _) := fun f hf => h f (List.mem_of_mem_take hf)
  simp only [List.take_succ_cons, List.take_zero, List.drop_succ_cons, List.drop_zero, Holds, List.forall_mem_cons, List.not_mem_nil, false_implies, implies_true, and_true, Fact.holds, SB.eval, SX.eval, ylike2_0, ylike2_1, ylike2_2, ylike2_3, ylike2_4, ylike2_5, ylike2_6, ylike2_7, ylike2_8, ylike2_9, ylike2_10, ylike2_11, ylike2_12, ylike2_13, ylike2_14, ylike2_15, ylike2_16, ylike2_17, ylike2_18, ylike2_19, ylike2_20, ylike2_21, ylike2_22, ylike2_23, ylike2_24, ylike2_25, ylike2_26, ylike2_27, ylike2_28, wrapU, wrapI, fdivP, tmodP, beq_iff_eq, beq_eq_false_iff_ne, decide_eq_true_eq, decide_eq_false_iff_not, ne_eq] at h ha hb hc
  simp only [Int.reducePow] at h ha hb hc
  first | (clear h hc; omega) | (clear h; omega) | omega

theorem like2_110 (val : Nat → Int) (h : Holds val [.is ylike2_27 0, .is ylike2_28 0, .le (.wrap .i64 ylike2_3) 4294967295, .ge (.wrap .i64 ylike2_3) 0, .le (.shr ylike2_4 32) 2147483647, .ge (.shr ylike2_4 32) (-2147483648), .at ylike2_19 true, .at ylike2_23 true, .at ylike2_24 true, .at ylike2_25 true, .at ylike2_12 true, .at ylike2_14 true, .at ylike2_13 false, .at ylike2_9 true, .at ylike2_20 false, .is ylike2_2 2, .ge (.a 0) (-9223372036854775808), .le (.a 0) 9223372036854775807]) : LikeQ val :=
  leafK h (by kernel_rfl)

theorem like2_111 (val : Nat → Int) (h : Holds val [.ne ylike2_27 0, .is ylike2_28 0, .le (.wrap .i64 ylike2_3) 4294967295, .ge (.wrap .i64 ylike2_3) 0, .le (.shr ylike2_4 32) 2147483647, .ge (.shr ylike2_4 32) (-2147483648), .at ylike2_19 true, .at ylike2_23 true, .at ylike2_24 true, .at ylike2_25 true, .at ylike2_12 true, .at ylike2_14 true, .at ylike2_13 false, .at ylike2_9 true, .at ylike2_20 false, .is ylike2_2 2, .ge (.a 0) (-9223372036854775808), .le (.a 0) 9223372036854775807]) : LikeQ val := by
  exfalso
  have hb : Holds val (List.drop 15 _) := fun f hf => h f (List.mem_of_mem_drop hf)
  have ha : Holds val (List.take 1 _) := fun f hf => h f (List.mem_of_mem_take hf)
  have hc : Holds val (List.take 2 _) := fun f hf => h f (List.mem_of_mem_take hf)
  simp only [List.take_succ_cons, List.take_zero, List.drop_succ_cons, List.drop_zero, Holds, List.forall_mem_cons, List.not_mem_nil, false_implies, implies_true, and_true, Fact.holds, SB.eval, SX.eval, ylike2_0, ylike2_1, ylike2_2, ylike2_3, ylike2_4, ylike2_5, ylike2_6, ylike2_7, ylike2_8, ylike2_9, ylike2_10, ylike2_11, ylike2_12, ylike2_13, ylike2_14, ylike2_15, ylike2_16, ylike2_17, ylike2_18, ylike2_19, ylike2_20, ylike2_21, ylike2_22, ylike2_23, ylike2_24, ylike2_25, ylike2_26, ylike2_27, ylike2_28, wrapU, wrapI, fdivP, tmodP, beq_iff_eq, beq_eq_false_iff_ne, decide_eq_true_eq, decide_eq_false_iff_not, ne_eq] at h ha hb hc
  simp only [Int.reducePow] at h ha hb hc
  first | (clear h hc; omega) | (clear h; omega) | omega

theorem like2_112 (val : Nat → Int) (h : Holds val [.ne ylike2_28 0, .le (.wrap .i64 ylike2_3) 4294967295, .ge (.wrap .i64 ylike2_3) 0, .le (.shr ylike2_4 32) 2147483647, .ge (.shr ylike2_4 32) (-2147483648), .at ylike2_19 true, .at ylike2_23 true, .at ylike2_24 true, .at ylike2_25 true, .at ylike2_12 true, .at ylike2_14 true, .at ylike2_13 false, .at ylike2_9 true, .at ylike2_20 false, .is ylike2_2 2, .ge (.a 0) (-9223372036854775808), .le (.a 0) 9223372036854775807]) : LikeQ val := by
  exfalso
  have hb : Holds val (List.drop 14 _) := fun f hf => h f (List.mem_of_mem_drop hf)
  have ha : Holds val (List.take 1 _) := fun f hf => h f (List.mem_of_mem_take hf)
  have hc : Holds val (List.take 2 _) := fun f hf => h f (List.mem_of_mem_take hf)
  simp only [List.take_succ_cons, List.take_zero, List.drop_succ_cons, List.drop_zero, Holds, List.forall_mem_cons, List.not_mem_nil, false_implies, implies_true, and_true, Fact.holds, SB.eval, SX.eval, ylike2_0, ylike2_1, ylike2_2, ylike2_3, ylike2_4, ylike2_5, ylike2_6, ylike2_7, ylike2_8, ylike2_9, ylike2_10, ylike2_11, ylike2_12, ylike2_13, ylike2_14, ylike2_15, ylike2_16, ylike2_17, ylike2_18, ylike2_19, ylike2_20, ylike2_21, ylike2_22, ylike2_23, ylike2_24, ylike2_25, ylike2_26, ylike2_27, ylike2_28, wrapU, wrapI, fdivP, tmodP, beq_iff_eq, beq_eq_false_iff_ne, decide_eq_true_eq, decide_eq_false_iff_not, ne_eq] at h ha hb hc
  simp only [Int.reducePow] at h ha hb hc
  first | (clear h hc; omega) | (clear h; omega) | omega

theorem like2_113 (val : Nat → Int) (h : Holds val [.ge (.wrap .i64 ylike2_3) 4294967296, .ge (.wrap .i64 ylike2_3) 0, .le (.shr ylike2_4 32) 2147483647, .ge (.shr ylike2_4 32) (-2147483648), .at ylike2_19 true, .at ylike2_23 true, .at ylike2_24 true, .at ylike2_25 true, .at ylike2_12 true, .at ylike2_14 true, .at ylike2_13 false, .at ylike2_9 true, .at ylike2_20 false, .is ylike2_2 2, .ge (.a 0) (-9223372036854775808), .le (.a 0) 9223372036854775807]) : LikeQ val := by
  exfalso
  have hb : Holds val (List.drop 13 _) := fun f hf => h f (List.mem_of_mem_drop hf)
  have ha : Holds val (List.take 1 _) := fun f hf => h f (List.mem_of_mem_take hf)
  have hc : Holds val (List.take 2 _) := fun f hf => h f (List.mem_of_mem_take hf)
  simp only [List.take_succ_cons, List.take_zero, List.drop_succ_cons, List.drop_zero, Holds, List.forall_mem_cons, List.not_mem_nil, false_implies, implies_true, and_true, Fact.holds, SB.eval, SX.eval, ylike2_0, ylike2_1, ylike2_2, ylike2_3, ylike2_4, ylike2_5, ylike2_6, ylike2_7, ylike2_8, ylike2_9, ylike2_10, ylike2_11, ylike2_12, ylike2_13, ylike2_14, ylike2_15, ylike2_16, ylike2_17, ylike2_18, ylike2_19, ylike2_20, ylike2_21, ylike2_22, ylike2_23, ylike2_24, ylike2_25, ylike2_26, ylike2_27, ylike2_28, wrapU, wrapI, fdivP, tmodP, beq_iff_eq, beq_eq_false_iff_ne, decide_eq_true_eq, decide_eq_false_iff_not, ne_eq] at h ha hb hc
  simp only [Int.reducePow] at h ha hb hc
  first | (clear h hc; omega) | (clear h; omega) | omega

theorem like2_114 (val : Nat → Int) (h : Holds val [.le (.wrap .i64 ylike2_3) (-1), .le (.shr ylike2_4 32) 2147483647, .ge (.shr ylike2_4 32) (-2147483648), .at ylike2_19 true, .at ylike2_23 true, .at ylike2_24 true, .at ylike2_25 true, .at ylike2_12 true, .at ylike2_14 true, .at ylike2_13 false, .at ylike2_9 true, .at ylike2_20 false, .is ylike2_2 2, .ge (.a 0) (-9223372036854775808), .le (.a 0) 9223372036854775807]) : LikeQ val := by
  exfalso
  have hb : Holds val (List.drop 12 _) := fun f hf => h f (List.mem_of_mem_drop hf)
  have ha : Holds val (List.take 1 _) := fun f hf => h f (List.mem_of_mem_take hf)
  have hc : Holds val (List.take 2 _) := fun f hf => h f (List.mem_of_mem_take hf)
  simp only [List.take_succ_cons, List.take_zero, List.drop_succ_cons, List.drop_zero, Holds, List.forall_mem_cons, List.not_mem_nil, false_implies, implies_true, and_true, Fact.holds, SB.eval, SX.eval, ylike2_0, ylike2_1, ylike2_2, ylike2_3, ylike2_4, ylike2_5, ylike2_6, ylike2_7, ylike2_8, ylike2_9, ylike2_10, ylike2_11, ylike2_12, ylike2_13, ylike2_14, ylike2_15, ylike2_16, ylike2_17, ylike2_18, ylike2_19, ylike2_20, ylike2_21, ylike2_22, ylike2_23, ylike2_24, ylike2_25, ylike2_26, ylike2_27, ylike2_28, wrapU, wrapI, fdivP, tmodP, beq_iff_eq, beq_eq_false_iff_ne, decide_eq_true_eq, decide_eq_false_iff_not, ne_eq] at h ha hb hc
  simp only [Int.reducePow] at h ha hb hc
  first | (clear h hc; omega) | (clear h; omega) | omega

theorem like2_115 (val : Nat → Int) (h : Holds val [.ge (.shr ylike2_4 32) 2147483648, .ge (.shr ylike2_4 32) (-2147483648), .at ylike2_19 true, .at ylike2_23 true, .at ylike2_24 true, .at ylike2_25 true, .at ylike2_12 true, .at ylike2_14 true, .at ylike2_13 false, .at ylike2_9 true, .at ylike2_20 false, .is ylike2_2 2, .ge (.a 0) (-9223372036854775808), .le (.a 0) 9223372036854775807]) : LikeQ val := by
  exfalso
  have hb : Holds val (List.drop 11 _) := fun f hf => h f (List.mem_of_mem_drop hf)
  have ha : Holds val (List.take 1 _) := fun f hf => h f (List.mem_of_mem_take hf)
  have hc : Holds val (List.take 2 _) := fun f hf => h f (List.mem_of_mem_take hf)
  simp only [List.take_succ_cons, List.take_zero, List.drop_succ_cons, List.drop_zero, Holds, List.forall_mem_cons, List.not_mem_nil, false_implies, implies_true, and_true, Fact.holds, SB.eval, SX.eval, ylike2_0, ylike2_1, ylike2_2, ylike2_3, ylike2_4, ylike2_5, ylike2_6, ylike2_7, ylike2_8, ylike2_9, ylike2_10, ylike2_11, ylike2_12, ylike2_13, ylike2_14, ylike2_15, ylike2_16, ylike2_17, ylike2_18, ylike2_19, ylike2_20, ylike2_21, ylike2_22, ylike2_23, ylike2_24, ylike2_25, ylike2_26, ylike2_27, ylike2_28, wrapU, wrapI, fdivP, tmodP, beq_iff_eq, beq_eq_false_iff_ne, decide_eq_true_eq, decide_eq_false_iff_not, ne_eq] at h ha hb hc
  simp only [Int.reducePow] at h ha hb hc
  first | (clear h hc; omega) | (clear h; omega) | omega

theorem like2_116 (val : Nat → Int) (h : Holds val [.le (.shr ylike2_4 32) (-2147483649), .at ylike2_19 true, .at ylike2_23 true, .at ylike2_24 true, .at ylike2_25 true, .at ylike2_12 true, .at ylike2_14 true, .at ylike2_13 false, .at ylike2_9 true, .at ylike2_20 false, .is ylike2_2 2, .ge (.a 0) (-9223372036854775808), .le (.a 0) 9223372036854775807]) : LikeQ val := by
  exfalso
  have hb : Holds val (List.drop 10 _) := fun f hf => h f (List.mem_of_mem_drop hf)
  have ha : Holds val (List.take 1 _) := fun f hf => h f (List.mem_of_mem_take hf)
  have hc : Holds val (List.take 2 _) := fun f hf => h f (List.mem_of_mem_take hf)
  simp only [List.take_succ_cons, List.take_zero, List.drop_succ_cons, List.drop_zero, Holds, List.forall_mem_cons, List.not_mem_nil, false_implies, implies_true, and_true, Fact.holds, SB.eval, SX.eval, ylike2_0, ylike2_1, ylike2_2, ylike2_3, ylike2_4, ylike2_5, ylike2_6, ylike2_7, ylike2_8, ylike2_9, ylike2_10, ylike2_11, ylike2_12, ylike2_13, ylike2_14, ylike2_15, ylike2_16, ylike2_17, ylike2_18, ylike2_19, ylike2_20, ylike2_21, ylike2_22, ylike2_23, ylike2_24, ylike2_25, ylike2_26, ylike2_27, ylike2_28, wrapU, wrapI, fdivP, tmodP, beq_iff_eq, beq_eq_false_iff_ne, decide_eq_true_eq, decide_eq_false_iff_not, ne_eq] at h ha hb hc
  simp only [Int.reducePow] at h ha hb hc
  first | (clear h hc; omega) | (clear h; omega) | omega

theorem like2_117 (val : Nat → Int) (h : Holds val [.at ylike2_19 false, .at ylike2_23 true, .at ylike2_24 true, .at ylike2_25 true, .at ylike2_12 true, .at ylike2_14 true, .at ylike2_13 false, .at ylike2_9 true, .at ylike2_20 false, .is ylike2_2 2, .ge (.a 0) (-9223372036854775808), .le (.a 0) 9223372036854775807]) : LikeQ val := by
  exfalso
  have hb : Holds val (List.drop 9 _) := fun f hf => h f (List.mem_of_mem_drop hf)
  have ha : Holds val (List.take 1 _) := fun f hf => h f (List.mem_of_mem_take hf)
  have hc : Holds val (List.take 2 _) := fun f hf => h f (List.mem_of_mem_take hf)
  simp only [List.take_succ_cons, List.take_zero, List.drop_succ_cons, List.drop_zero, Holds, List.forall_mem_cons, List.not_mem_nil, false_implies, implies_true, and_true, Fact.holds, SB.eval, SX.eval, ylike2_0, ylike2_1, ylike2_2, ylike2_3, ylike2_4, ylike2_5, ylike2_6, ylike2_7, ylike2_8, ylike2_9, ylike2_10, ylike2_11, ylike2_12, ylike2_13, ylike2_14, ylike2_15, ylike2_16, ylike2_17, ylike2_18, ylike2_19, ylike2_20, ylike2_21, ylike2_22, ylike2_23, ylike2_24, ylike2_25, ylike2_26, ylike2_27, ylike2_28, wrapU, wrapI, fdivP, tmodP, beq_iff_eq, beq_eq_false_iff_ne, decide_eq_true_eq, decide_eq_false_iff_not, ne_eq] at h ha hb hc
  simp only [Int.reducePow] at h ha hb hc
  first | (clear h hc; omega) | (clear h; omega) | omega

theorem like2_118 (val : Nat → Int) (h : Holds val [.at ylike2_23 false, .at ylike2_24 true, .at ylike2_25 true, .at ylike2_12 true, .at ylike2_14 true, .at ylike2_13 false, .at ylike2_9 true, .at ylike2_20 false, .is ylike2_2 2, .ge (.a 0) (-9223372036854775808), .le (.a 0) 9223372036854775807]) : LikeQ val := by
  exfalso
  have hb : Holds val (List.drop 8 _) := fun f hf => h f (List.mem_of_mem_drop hf)
  have ha : Holds val (List.take 1 _) := fun f hf => h f (List.mem_of_mem_take hf)
  have hc : Holds val (List.take 2 _) := fun f hf => h f (List.mem_of_mem_take hf)
  simp only [List.take_succ_cons, List.take_zero, List.drop_succ_cons, List.drop_zero, Holds, List.forall_mem_cons, List.not_mem_nil, false_implies, implies_true, and_true, Fact.holds, SB.eval, SX.eval, ylike2_0, ylike2_1, ylike2_2, ylike2_3, ylike2_4, ylike2_5, ylike2_6, ylike2_7, ylike2_8, ylike2_9, ylike2_10, ylike2_11, ylike2_12, ylike2_13, ylike2_14, ylike2_15, ylike2_16, ylike2_17, ylike2_18, ylike2_19, ylike2_20, ylike2_21, ylike2_22, ylike2_23, ylike2_24, ylike2_25, ylike2_26, ylike2_27, ylike2_28, wrapU, wrapI, fdivP, tmodP, beq_iff_eq, beq_eq_false_iff_ne, decide_eq_true_eq, decide_eq_false_iff_not, ne_eq] at h ha hb hc
  simp only [Int.reducePow] at h ha hb hc
  first | (clear h hc; omega) | (clear h; omega) | omega

theorem like2_119 (val : Nat → Int) (h : Holds val [.at ylike2_24 false, .at ylike2_25 true, .at ylike2_12 true, .at ylike2_14 true, .at ylike2_13 false, .at ylike2_9 true, .at ylike2_20 false, .is ylike2_2 2, .ge (.a 0) (-9223372036854775808), .le (.a 0) 9223372036854775807]) : LikeQ val := by
  exfalso
  have hb : Holds val (List.drop 7 _) := fun f hf => h f (List.mem_of_mem_drop hf)
  have ha : Holds val (List.take 1 _) := fun f hf => h f (List.mem_of_mem_take hf)
  have hc : Holds val (List.take 2 _) := fun f hf => h f (List.mem_of_mem_take hf)
  simp only [List.take_succ_cons, List.take_zero, List.drop_succ_cons, List.drop_zero, Holds, List.forall_mem_cons, List.not_mem_nil, false_implies, implies_true, and_true, Fact.holds, SB.eval, SX.eval, ylike2_0, ylike2_1, ylike2_2, ylike2_3, ylike2_4, ylike2_5, ylike2_6, ylike2_7, ylike2_8, ylike2_9, ylike2_10, ylike2_11, ylike2_12, ylike2_13, ylike2_14, ylike2_15, ylike2_16, ylike2_17, ylike2_18, ylike2_19, ylike2_20, ylike2_21, ylike2_22, ylike2_23, ylike2_24, ylike2_25, ylike2_26, ylike2_27, ylike2_28, wrapU, wrapI, fdivP, tmodP, beq_iff_eq, beq_eq_false_iff_ne, decide_eq_true_eq, decide_eq_false_iff_not, ne_eq] at h ha hb hc
  simp only [Int.reducePow] at h ha hb hc
  first | (clear h hc; omega) | (clear h; omega) | omega

theorem like2_120 (val : Nat → Int) (h : Holds val [.is ylike2_27 0, .is ylike2_28 0, .le (.wrap .i64 ylike2_3) 4294967295, .ge (.wrap .i64 ylike2_3) 0, .le (.shr ylike2_4 32) 2147483647, .ge (.shr ylike2_4 32) (-2147483648), .at ylike2_19 true, .at ylike2_23 true, .at ylike2_24 true, .at ylike2_26 true, .at ylike2_25 false, .at ylike2_12 true, .at ylike2_14 true, .at ylike2_13 false, .at ylike2_9 true, .at ylike2_20 false, .is ylike2_2 2, .ge (.a 0) (-9223372036854775808), .le (.a 0) 9223372036854775807]) : LikeQ val :=
  leafK h (by kernel_rfl)

theorem like2_121 (val : Nat → Int) (h : Holds val [.ne ylike2_27 0, .is ylike2_28 0, .le (.wrap .i64 ylike2_3) 4294967295, .ge (.wrap .i64 ylike2_3) 0, .le (.shr ylike2_4 32) 2147483647, .ge (.shr ylike2_4 32) (-2147483648), .at ylike2_19 true, .at ylike2_23 true, .at ylike2_24 true, .at ylike2_26 true, .at ylike2_25 false, .at ylike2_12 true, .at ylike2_14 true, .at ylike2_13 false, .at ylike2_9 true, .at ylike2_20 false, .is ylike2_2 2, .ge (.a 0) (-9223372036854775808), .le (.a 0) 9223372036854775807]) : LikeQ val := by
  exfalso
  have hb : Holds val (List.drop 16 _) := fun f hf => h f (List.mem_of_mem_drop hf)
  have ha : Holds val (List.take 1 _) := fun f hf => h f (List.mem_of_mem_take hf)
  have hc : Holds val (List.take 2 _) := fun f hf => h f (List.mem_of_mem_take hf)
  simp only [List.take_succ_cons, List.take_zero, List.drop_succ_cons, List.drop_zero, Holds, List.forall_mem_cons, List.not_mem_nil, false_implies, implies_true, and_true, Fact.holds, SB.eval, SX.eval, ylike2_0, ylike2_1, ylike2_2, ylike2_3, ylike2_4, ylike2_5, ylike2_6, ylike2_7, ylike2_8, ylike2_9, ylike2_10, ylike2_11, ylike2_12, ylike2_13, ylike2_14, ylike2_15, ylike2_16, ylike2_17, ylike2_18, ylike2_19, ylike2_20, ylike2_21, ylike2_22, ylike2_23, ylike2_24, ylike2_25, ylike2_26, ylike2_27, ylike2_28, wrapU, wrapI, fdivP, tmodP, beq_iff_eq, beq_eq_false_iff_ne, decide_eq_true_eq, decide_eq_false_iff_not, ne_eq] at h ha hb hc
  simp only [Int.reducePow] at h ha hb hc
  first | (clear h hc; omega) | (clear h; omega) | omega

theorem like2_122 (val : Nat → Int) (h : Holds val [.ne ylike2_28 0, .le (.wrap .i64 ylike2_3) 4294967295, .ge (.wrap .i64 ylike2_3) 0, .le (.shr ylike2_4 32) 2147483647, .ge (.shr ylike2_4 32) (-2147483648), .at ylike2_19 true, .at ylike2_23 true, .at ylike2_24 true, .at ylike2_26 true, .at ylike2_25 false, .at ylike2_12 true, .at ylike2_14 true, .at ylike2_13 false, .at ylike2_9 true, .at ylike2_20 false, .is ylike2_2 2, .ge (.a 0) (-9223372036854775808), .le (.a 0) 9223372036854775807]) : LikeQ val := by
  exfalso
  have hb : Holds val (List.drop 15 _) := fun f hf => h f (List.mem_of_mem_drop hf)
  have ha : Holds val (List.take 1 _) := fun f hf => h f (List.mem_of_mem_take hf)
  have hc : Holds val (List.take 2 _) := fun f hf => h f (List.mem_of_mem_take hf)
  simp only [List.take_succ_cons, List.take_zero, List.drop_succ_cons, List.drop_zero, Holds, List.forall_mem_cons, List.not_mem_nil, false_implies, implies_true, and_true, Fact.holds, SB.eval, SX.eval, ylike2_0, ylike2_1, ylike2_2, ylike2_3, ylike2_4, ylike2_5, ylike2_6, ylike2_7, ylike2_8, ylike2_9, ylike2_10, ylike2_11, ylike2_12, ylike2_13, ylike2_14, ylike2_15, ylike2_16, ylike2_17, ylike2_18, ylike2_19, ylike2_20, ylike2_21, ylike2_22, ylike2_23, ylike2_24, ylike2_25, ylike2_26, ylike2_27, ylike2_28, wrapU, wrapI, fdivP, tmodP, beq_iff_eq, beq_eq_false_iff_ne, decide_eq_true_eq, decide_eq_false_iff_not, ne_eq] at h ha hb hc
  simp only [Int.reducePow] at h ha hb hc
  first | (clear h hc; omega) | (clear h; omega) | omega

theorem like2_123 (val : Nat → Int) (h : Holds val [.ge (.wrap .i64 ylike2_3) 4294967296, .ge (.wrap .i64 ylike2_3) 0, .le (.shr ylike2_4 32) 2147483647, .ge (.shr ylike2_4 32) (-2147483648), .at ylike2_19 true, .at ylike2_23 true, .at ylike2_24 true, .at ylike2_26 true, .at ylike2_25 false, .at ylike2_12 true, .at ylike2_14 true, .at ylike2_13 false, .at ylike2_9 true, .at ylike2_20 false, .is ylike2_2 2, .ge (.a 0) (-9223372036854775808), .le (.a 0) 9223372036854775807]) : LikeQ val := by
  exfalso
  have hb : Holds val (List.drop 14 _) := fun f hf => h f (List.mem_of_mem_drop hf)
  have ha : Holds val (List.take 1 _) := fun f hf => h f (List.mem_of_mem_take hf)
  have hc : Holds val (List.take 2 _) := fun f hf => h f (List.mem_of_mem_take hf)
  simp only [List.take_succ_cons, List.take_zero, List.drop_succ_cons, List.drop_zero, Holds, List.forall_mem_cons, List.not_mem_nil, false_implies, implies_true, and_true, Fact.holds, SB.eval, SX.eval, ylike2_0, ylike2_1, ylike2_2, ylike2_3, ylike2_4, ylike2_5, ylike2_6, ylike2_7, ylike2_8, ylike2_9, ylike2_10, ylike2_11, ylike2_12, ylike2_13, ylike2_14, ylike2_15, ylike2_16, ylike2_17, ylike2_18, ylike2_19, ylike2_20, ylike2_21, ylike2_22, ylike2_23, ylike2_24, ylike2_25, ylike2_26, ylike2_27, ylike2_28, wrapU, wrapI, fdivP, tmodP, beq_iff_eq, beq_eq_false_iff_ne, decide_eq_true_eq, decide_eq_false_iff_not, ne_eq] at h ha hb hc
  simp only [Int.reducePow] at h ha hb hc
  first | (clear h hc; omega) | (clear h; omega) | omega

theorem like2_124 (val : Nat → Int) (h : Holds val [.le (.wrap .i64 ylike2_3) (-1), .le (.shr ylike2_4 32) 2147483647, .ge (.shr ylike2_4 32) (-2147483648), .at ylike2_19 true, .at ylike2_23 true, .at ylike2_24 true, .at ylike2_26 true, .at ylike2_25 false, .at ylike2_12 true, .at ylike2_14 true, .at ylike2_13 false, .at ylike2_9 true, .at ylike2_20 false, .is ylike2_2 2, .ge (.a 0) (-9223372036854775808), .le (.a 0) 9223372036854775807]) : LikeQ val := by
  exfalso
  have hb : Holds val (List.drop 13 _) := fun f hf => h f (List.mem_of_mem_drop hf)
  have ha : Holds val (List.take 1 _) := fun f hf => h f (List.mem_of_mem_take hf)
  have hc : Holds val (List.take 2 _) := fun f hf => h f (List.mem_of_mem_take hf)
  simp only [List.take_succ_cons, List.take_zero, List.drop_succ_cons, List.drop_zero, Holds, List.forall_mem_cons, List.not_mem_nil, false_implies, implies_true, and_true, Fact.holds, SB.eval, SX.eval, ylike2_0, ylike2_1, ylike2_2, ylike2_3, ylike2_4, ylike2_5, ylike2_6, ylike2_7, ylike2_8, ylike2_9, ylike2_10, ylike2_11, ylike2_12, ylike2_13, ylike2_14, ylike2_15, ylike2_16, ylike2_17, ylike2_18, ylike2_19, ylike2_20, ylike2_21, ylike2_22, ylike2_23, ylike2_24, ylike2_25, ylike2_26, ylike2_27, ylike2_28, wrapU, wrapI, fdivP, tmodP, beq_iff_eq, beq_eq_false_iff_ne, decide_eq_true_eq, decide_eq_false_iff_not, ne_eq] at h ha hb hc
  simp only [Int.reducePow] at h ha hb hc
  first | (clear h hc; omega) | (clear h; omega) | omega

theorem like2_125 (val : Nat → Int) (h : Holds val [.ge (.shr ylike2_4 32) 2147483648, .ge (.shr ylike2_4 32) (-2147483648), .at ylike2_19 true, .at ylike2_23 true, .at ylike2_24 true, .at ylike2_26 true, .at ylike2_25 false, .at ylike2_12 true, .at ylike2_14 true, .at ylike2_13 false, .at ylike2_9 true, .at ylike2_20 false, .is ylike2_2 2, .ge (.a 0) (-9223372036854775808), .le (.a 0) 9223372036854775807]) : LikeQ val := by
  exfalso
  have hb : Holds val (List.drop 12 _) := fun f hf => h f (List.mem_of_mem_drop hf)
  have ha : Holds val (List.take 1 _) := fun f hf => h f (List.mem_of_mem_take hf)
  have hc : Holds val (List.take 2 _) := fun f hf => h f (List.mem_of_mem_take hf)
  simp only [List.take_succ_cons, List.take_zero, List.drop_succ_cons, List.drop_zero, Holds, List.forall_mem_cons, List.not_mem_nil, false_implies, implies_true, and_true, Fact.holds, SB.eval, SX.eval, ylike2_0, ylike2_1, ylike2_2, ylike2_3, ylike2_4, ylike2_5, ylike2_6, ylike2_7, ylike2_8, ylike2_9, ylike2_10, ylike2_11, ylike2_12, ylike2_13, ylike2_14, ylike2_15, ylike2_16, ylike2_17, ylike2_18, ylike2_19, ylike2_20, ylike2_21, ylike2_22, ylike2_23, ylike2_24, ylike2_25, ylike2_26, ylike2_27, ylike2_28, wrapU, wrapI, fdivP, tmodP, beq_iff_eq, beq_eq_false_iff_ne, decide_eq_true_eq, decide_eq_false_iff_not, ne_eq] at h ha hb hc
  simp only [Int.reducePow] at h ha hb hc
  first | (clear h hc; omega) | (clear h; omega) | omega

theorem like2_126 (val : Nat → Int) (h : Holds val [.le (.shr ylike2_4 32) (-2147483649), .at ylike2_19 true, .at ylike2_23 true, .at ylike2_24 true, .at ylike2_26 true, .at ylike2_25 false, .at ylike2_12 true, .at ylike2_14 true, .at ylike2_13 false, .at ylike2_9 true, .at ylike2_20 false, .is ylike2_2 2, .ge (.a 0) (-9223372036854775808), .le (.a 0) 9223372036854775807]) : LikeQ val := by
  exfalso
  have hb : Holds val (List.drop 11 _) := fun f hf => h f (List.mem_of_mem_drop hf)
  have ha : Holds val (List.take 1 _) := fun f hf => h f (List.mem_of_mem_take hf)
  have hc : Holds val (List.take 2 _) := fun f hf => h f (List.mem_of_mem_take hf)
  simp only [List.take_succ_cons, List.take_zero, List.drop_succ_cons, List.drop_zero, Holds, List.forall_mem_cons, List.not_mem_nil, false_implies, implies_true, and_true, Fact.holds, SB.eval, SX.eval, ylike2_0, ylike2_1, ylike2_2, ylike2_3, ylike2_4, ylike2_5, ylike2_6, ylike2_7, ylike2_8, ylike2_9, ylike2_10, ylike2_11, ylike2_12, ylike2_13, ylike2_14, ylike2_15, ylike2_16, ylike2_17, ylike2_18, ylike2_19, ylike2_20, ylike2_21, ylike2_22, ylike2_23, ylike2_24, ylike2_25, ylike2_26, ylike2_27, ylike2_28, wrapU, wrapI, fdivP, tmodP, beq_iff_eq, beq_eq_false_iff_ne, decide_eq_true_eq, decide_eq_false_iff_not, ne_eq] at h ha hb hc
  simp only [Int.reducePow] at h ha hb hc
  first | (clear h hc; omega) | (clear h; omega) | omega

theorem like2_127 (val : Nat → Int) (h : Holds val [.at ylike2_19 false, .at ylike2_23 true, .at ylike2_24 true, .at ylike2_26 true, .at ylike2_25 false, .at ylike2_12 true, .at ylike2_14 true, .at ylike2_13 false, .at ylike2_9 true, .at ylike2_20 false, .is ylike2_2 2, .ge (.a 0) (-9223372036854775808), .le (.a 0) 9223372036854775807]) : LikeQ val := by
  exfalso
  have hb : Holds val (List.drop 10 _) := fun f hf => h f (List.mem_of_mem_drop hf)
  have ha : Holds val (List.take 1 _) := fun f hf => h f (List.mem_of_mem_take hf)
  have hc : Holds val (List.take 2 _) := fun f hf => h f (List.mem_of_mem_take hf)
  simp only [List.take_succ_cons, List.take_zero, List.drop_succ_cons, List.drop_zero, Holds, List.forall_mem_cons, List.not_mem_nil, false_implies, implies_true, and_true, Fact.holds, SB.eval, SX.eval, ylike2_0, ylike2_1, ylike2_2, ylike2_3, ylike2_4, ylike2_5, ylike2_6, ylike2_7, ylike2_8, ylike2_9, ylike2_10, ylike2_11, ylike2_12, ylike2_13, ylike2_14, ylike2_15, ylike2_16, ylike2_17, ylike2_18, ylike2_19, ylike2_20, ylike2_21, ylike2_22, ylike2_23, ylike2_24, ylike2_25, ylike2_26, ylike2_27, ylike2_28, wrapU, wrapI, fdivP, tmodP, beq_iff_eq, beq_eq_false_iff_ne, decide_eq_true_eq, decide_eq_false_iff_not, ne_eq] at h ha hb hc
  simp only [Int.reducePow] at h ha hb hc
  first | (clear h hc; omega) | (clear h; omega) | omega

theorem like2_128 (val : Nat → Int) (h : Holds val [.at ylike2_23 false, .at ylike2_24 true, .at ylike2_26 true, .at ylike2_25 false, .at ylike2_12 true, .at ylike2_14 true, .at ylike2_13 false, .at ylike2_9 true, .at ylike2_20 false, .is ylike2_2 2, .ge (.a 0) (-9223372036854775808), .le (.a 0) 9223372036854775807]) : LikeQ val := by
  exfalso
  have hb : Holds val (List.drop 9 _) := fun f hf => h f (List.mem_of_mem_drop hf)
  have ha : Holds val (List.take 1 _) := fun f hf => h f (List.mem_of_mem_take hf)
  have hc : Holds val (List.take 2 _) := fun f hf => h f (List.mem_of_mem_take hf)
  simp only [List.take_succ_cons, List.take_zero, List.drop_succ_cons, List.drop_zero, Holds, List.forall_mem_cons, List.not_mem_nil, false_implies, implies_true, and_true, Fact.holds, SB.eval, SX.eval, ylike2_0, ylike2_1, ylike2_2, ylike2_3, ylike2_4, ylike2_5, ylike2_6, ylike2_7, ylike2_8, ylike2_9, ylike2_10, ylike2_11, ylike2_12, ylike2_13, ylike2_14, ylike2_15, ylike2_16, ylike2_17, ylike2_18, ylike2_19, ylike2_20, ylike2_21, ylike2_22, ylike2_23, ylike2_24, ylike2_25, ylike2_26, ylike2_27, ylike2_28, wrapU, wrapI, fdivP, tmodP, beq_iff_eq, beq_eq_false_iff_ne, decide_eq_true_eq, decide_eq_false_iff_not, ne_eq] at h ha hb hc
  simp only [Int.reducePow] at h ha hb hc
  first | (clear h hc; omega) | (clear h; omega) | omega

theorem like2_129 (val : Nat → Int) (h : Holds val [.at ylike2_24 false, .at ylike2_26 true, .at ylike2_25 false, .at ylike2_12 true, .at ylike2_14 true, .at ylike2_13 false, .at ylike2_9 true, .at ylike2_20 false, .is ylike2_2 2, .ge (.a 0) (-9223372036854775808), .le (.a 0) 9223372036854775807]) : LikeQ val := by
  exfalso
  have hb : Holds val (List.drop 8 _) := fun f hf => h f (List.mem_of_mem_drop hf)
  have ha : Holds val (List.take 1 _) := fun f hf => h f (List.mem_of_mem_take hf)
  have hc : Holds val (List.take 2 _) := fun f hf => h f (List.mem_of_mem_take hf)
  simp only [List.take_succ_cons, List.take_zero, List.drop_succ_cons, List.drop_zero, Holds, List.forall_mem_cons, List.not_mem_nil, false_implies, implies_true, and_true, Fact.holds, SB.eval, SX.eval, ylike2_0, ylike2_1, ylike2_2, ylike2_3, ylike2_4, ylike2_5, ylike2_6, ylike2_7, ylike2_8, ylike2_9, ylike2_10, ylike2_11, ylike2_12, ylike2_13, ylike2_14, ylike2_15, ylike2_16, ylike2_17, ylike2_18, ylike2_19, ylike2_20, ylike2_21, ylike2_22, ylike2_23, ylike2_24, ylike2_25, ylike2_26, ylike2_27, ylike2_28, wrapU, wrapI, fdivP, tmodP, beq_iff_eq, beq_eq_false_iff_ne, decide_eq_true_eq, decide_eq_false_iff_not, ne_eq] at h ha hb hc
  simp only [Int.reducePow] at h ha hb hc
  first | (clear h hc; omega) | (clear h; omega) | omega

theorem like2_130 (val : Nat → Int) (h : Holds val [.is (.a 0) 0, .is (.wrap .i64 ylike2_3) 0, .at ylike2_26 false, .at ylike2_25 false, .at ylike2_12 true, .at ylike2_14 true, .at ylike2_13 false, .at ylike2_9 true, .at ylike2_20 false, .is ylike2_2 2, .ge (.a 0) (-9223372036854775808), .le (.a 0) 9223372036854775807]) : LikeQ val :=
  leafK h (by kernel_rfl)

theorem like2_131 (val : Nat → Int) (h : Holds val [.le (.a 0) (-2147483649), .is (.shr ylike2_4 32) 0, .is ylike2_7 0, .ne (.a 0) 0, .is (.wrap .i64 ylike2_3) 0, .at ylike2_26 false, .at ylike2_25 false, .at ylike2_12 true, .at ylike2_14 true, .at ylike2_13 false, .at ylike2_9 true, .at ylike2_20 false, .is ylike2_2 2, .ge (.a 0) (-9223372036854775808), .le (.a 0) 9223372036854775807]) : LikeQ val :=
  leafK h (by kernel_rfl)

theorem like2_132 (val : Nat → Int) (h : Holds val [.ge (.a 0) 4294967296, .ge (.a 0) (-2147483648), .is (.shr ylike2_4 32) 0, .is ylike2_7 0, .ne (.a 0) 0, .is (.wrap .i64 ylike2_3) 0, .at ylike2_26 false, .at ylike2_25 false, .at ylike2_12 true, .at ylike2_14 true, .at ylike2_13 false, .at ylike2_9 true, .at ylike2_20 false, .is ylike2_2 2, .ge (.a 0) (-9223372036854775808), .le (.a 0) 9223372036854775807]) : LikeQ val :=
  leafK h (by kernel_rfl)

theorem like2_133 (val : Nat → Int) (h : Holds val [.le (.a 0) 4294967295, .ge (.a 0) (-2147483648), .is (.shr ylike2_4 32) 0, .is ylike2_7 0, .ne (.a 0) 0, .is (.wrap .i64 ylike2_3) 0, .at ylike2_26 false, .at ylike2_25 false, .at ylike2_12 true, .at ylike2_14 true, .at ylike2_13 false, .at ylike2_9 true, .at ylike2_20 false, .is ylike2_2 2, .ge (.a 0) (-9223372036854775808), .le (.a 0) 9223372036854775807]) : LikeQ val := by
  exfalso
  have hb : Holds val (List.drop 13 _) := fun f hf => h f (List.mem_of_mem_drop hf)
  have ha : Holds val (List.take 1 _) := fun f hf => h f (List.mem_of_mem_take hf)
  have hc : Holds val (List.take 2 _) := fun f hf => h f (List.mem_of_mem_take hf)
  simp only [List.take_succ_cons, List.take_zero, List.drop_succ_cons, List.drop_zero, Holds, List.forall_mem_cons, List.not_mem_nil, false_implies, implies_true, and_true, Fact.holds, SB.eval, SX.eval, ylike2_0, ylike2_1, ylike2_2, ylike2_3, ylike2_4, ylike2_5, ylike2_6, ylike2_7, ylike2_8, ylike2_9, ylike2_10, ylike2_11, ylike2_12, ylike2_13, ylike2_14, ylike2_15, ylike2_16, ylike2_17, ylike2_18, ylike2_19, ylike2_20, ylike2_21, ylike2_22, ylike2_23, ylike2_24, ylike2_25, ylike2_26, ylike2_27, ylike2_28, wrapU, wrapI, fdivP, tmodP, beq_iff_eq, beq_eq_false_iff_ne, decide_eq_true_eq, decide_eq_false_iff_not, ne_eq] at h ha hb hc
  simp only [Int.reducePow] at h ha hb hc
  first | (clear h hc; omega) | (clear h; omega) | omega

theorem like2_134 (val : Nat → Int) (h : Holds val [.ne (.shr ylike2_4 32) 0, .is ylike2_7 0, .ne (.a 0) 0, .is (.wrap .i64 ylike2_3) 0, .at ylike2_26 false, .at ylike2_25 false, .at ylike2_12 true, .at ylike2_14 true, .at ylike2_13 false, .at ylike2_9 true, .at ylike2_20 false, .is ylike2_2 2, .ge (.a 0) (-9223372036854775808), .le (.a 0) 9223372036854775807]) : LikeQ val := by
  exfalso
  have hb : Holds val (List.drop 11 _) := fun f hf => h f (List.mem_of_mem_drop hf)
  have ha : Holds val (List.take 1 _) := fun f hf => h f (List.mem_of_mem_take hf)
  have hc : Holds val (List.take 2 _) := fun f hf => h f (List.mem_of_mem_take hf)
  simp only [List.take_succ_cons, List.take_zero, List.drop_succ_cons, List.drop_zero, Holds, List.forall_mem_cons, List.not_mem_nil, false_implies, implies_true, and_true, Fact.holds, SB.eval, SX.eval, ylike2_0, ylike2_1, ylike2_2, ylike2_3, ylike2_4, ylike2_5, ylike2_6, ylike2_7, ylike2_8, ylike2_9, ylike2_10, ylike2_11, ylike2_12, ylike2_13, ylike2_14, ylike2_15, ylike2_16, ylike2_17, ylike2_18, ylike2_19, ylike2_20, ylike2_21, ylike2_22, ylike2_23, ylike2_24, ylike2_25, ylike2_26, ylike2_27, ylike2_28, wrapU, wrapI, fdivP, tmodP, beq_iff_eq, beq_eq_false_iff_ne, decide_eq_true_eq, decide_eq_false_iff_not, ne_eq] at h ha hb hc
  simp only [Int.reducePow] at h ha hb hc
  first | (clear h hc; omega) | (clear h; omega) | omega

theorem like2_135 (val : Nat → Int) (h : Holds val [.ne ylike2_7 0, .ne (.a 0) 0, .is (.wrap .i64 ylike2_3) 0, .at ylike2_26 false, .at ylike2_25 false, .at ylike2_12 true, .at ylike2_14 true, .at ylike2_13 false, .at ylike2_9 true, .at ylike2_20 false, .is ylike2_2 2, .ge (.a 0) (-9223372036854775808), .le (.a 0) 9223372036854775807]) : LikeQ val := by
  exfalso
  have hb : Holds val (List.drop 10 _) := fun f hf => h f (List.mem_of_mem_drop hf)
  have ha : Holds val (List.take 1 _) := fun f hf => h f (List.mem_of_mem_take hf)
  have hc : Holds val (List.take 2 _) := fun f hf => h f (List.mem_of_mem_take hf)
  simp only [List.take_succ_cons, List.take_zero, List.drop_succ_cons, List.drop_zero, Holds, List.forall_mem_cons, List.not_mem_nil, false_implies, implies_true, and_true, Fact.holds, SB.eval, SX.eval, ylike2_0, ylike2_1, ylike2_2, ylike2_3, ylike2_4, ylike2_5, ylike2_6, ylike2_7, ylike2_8, ylike2_9, ylike2_10, ylike2_11, ylike2_12, ylike2_13, ylike2_14, ylike2_15, ylike2_16, ylike2_17, ylike2_18, ylike2_19, ylike2_20, ylike2_21, ylike2_22, ylike2_23, ylike2_24, ylike2_25, ylike2_26, ylike2_27, ylike2_28, wrapU, wrapI, fdivP, tmodP, beq_iff_eq, beq_eq_false_iff_ne, decide_eq_true_eq, decide_eq_false_iff_not, ne_eq] at h ha hb hc
  simp only [Int.reducePow] at h ha hb hc
  first | (clear h hc; omega) | (clear h; omega) | omega

theorem like2_136 (val : Nat → Int) (h : Holds val [.ne (.wrap .i64 ylike2_3) 0, .at ylike2_26 false, .at ylike2_25 false, .at ylike2_12 true, .at ylike2_14 true, .at ylike2_13 false, .at ylike2_9 true, .at ylike2_20 false, .is ylike2_2 2, .ge (.a 0) (-9223372036854775808), .le (.a 0) 9223372036854775807]) : LikeQ val := by
  exfalso
  have hb : Holds val (List.drop 8 _) := fun f hf => h f (List.mem_of_mem_drop hf)
  have ha : Holds val (List.take 1 _) := fun f hf => h f (List.mem_of_mem_take hf)
  have hc : Holds val (List.take 2 _) := fun f hf => h f (List.mem_of_mem_take hf)
  simp only [List.take_succ_cons, List.take_zero, List.drop_succ_cons, List.drop_zero, Holds, List.forall_mem_cons, List.not_mem_nil, false_implies, implies_true, and_true, Fact.holds, SB.eval, SX.eval, ylike2_0, ylike2_1, ylike2_2, ylike2_3, ylike2_4, ylike2_5, ylike2_6, ylike2_7, ylike2_8, ylike2_9, ylike2_10, ylike2_11, ylike2_12, ylike2_13, ylike2_14, ylike2_15, ylike2_16, ylike2_17, ylike2_18, ylike2_19, ylike2_20, ylike2_21, ylike2_22, ylike2_23, ylike2_24, ylike2_25, ylike2_26, ylike2_27, ylike2_28, wrapU, wrapI, fdivP, tmodP, beq_iff_eq, beq_eq_false_iff_ne, decide_eq_true_eq, decide_eq_false_iff_not, ne_eq] at h ha hb hc
  simp only [Int.reducePow] at h ha hb hc
  first | (clear h hc; omega) | (clear h; omega) | omega

theorem like2_137 (val : Nat → Int) (h : Holds val [.at ylike2_12 false, .at ylike2_14 true, .at ylike2_13 false, .at ylike2_9 true, .at ylike2_20 false, .is ylike2_2 2, .ge (.a 0) (-9223372036854775808), .le (.a 0) 9223372036854775807]) : LikeQ val := by
  exfalso
  have hb : Holds val (List.drop 5 _) := fun f hf => h f (List.mem_of_mem_drop hf)
  have ha : Holds val (List.take 1 _) := fun f hf => h f (List.mem_of_mem_take hf)
  have hc : Holds val (List.take 2 _) := fun f hf => h f (List.mem_of_mem_take hf)
  simp only [List.take_succ_cons, List.take_zero, List.drop_succ_cons, List.drop_zero, Holds, List.forall_mem_cons, List.not_mem_nil, false_implies, implies_true, and_true, Fact.holds, SB.eval, SX.eval, ylike2_0, ylike2_1, ylike2_2, ylike2_3, ylike2_4, ylike2_5, ylike2_6, ylike2_7, ylike2_8, ylike2_9, ylike2_10, ylike2_11, ylike2_12, ylike2_13, ylike2_14, ylike2_15, ylike2_16, ylike2_17, ylike2_18, ylike2_19, ylike2_20, ylike2_21, ylike2_22, ylike2_23, ylike2_24, ylike2_25, ylike2_26, ylike2_27, ylike2_28, wrapU, wrapI, fdivP, tmodP, beq_iff_eq, beq_eq_false_iff_ne, decide_eq_true_eq, decide_eq_false_iff_not, ne_eq] at h ha hb hc
  simp only [Int.reducePow] at h ha hb hc
  first | (clear h hc; omega) | (clear h; omega) | omega

theorem like2_138 (val : Nat → Int) (h : Holds val [.is (.a 0) 0, .is (.shr ylike2_4 32) 0, .at ylike2_14 false, .at ylike2_13 false, .at ylike2_9 true, .at ylike2_20 false, .is ylike2_2 2, .ge (.a 0) (-9223372036854775808), .le (.a 0) 9223372036854775807]) : LikeQ val :=
  leafK h (by kernel_rfl)

theorem like2_139 (val : Nat → Int) (h : Holds val [.le (.a 0) (-2147483649), .ne (.a 0) 0, .is (.shr ylike2_4 32) 0, .at ylike2_14 false, .at ylike2_13 false, .at ylike2_9 true, .at ylike2_20 false, .is ylike2_2 2, .ge (.a 0) (-9223372036854775808), .le (.a 0) 9223372036854775807]) : LikeQ val :=
  leafK h (by kernel_rfl)

theorem like2_140 (val : Nat → Int) (h : Holds val [.ge (.a 0) 4294967296, .ge (.a 0) (-2147483648), .ne (.a 0) 0, .is (.shr ylike2_4 32) 0, .at ylike2_14 false, .at ylike2_13 false, .at ylike2_9 true, .at ylike2_20 false, .is ylike2_2 2, .ge (.a 0) (-9223372036854775808), .le (.a 0) 9223372036854775807]) : LikeQ val :=
  leafK h (by kernel_rfl)

theorem like2_141 (val : Nat → Int) (h : Holds val [.le (.a 0) 4294967295, .ge (.a 0) (-2147483648), .ne (.a 0) 0, .is (.shr ylike2_4 32) 0, .at ylike2_14 false, .at ylike2_13 false, .at ylike2_9 true, .at ylike2_20 false, .is ylike2_2 2, .ge (.a 0) (-9223372036854775808), .le (.a 0) 9223372036854775807]) : LikeQ val := by
  exfalso
  have hb : Holds val (List.drop 8 _) := fun f hf => h f (List.mem_of_mem_drop hf)
  have ha : Holds val (List.take 1 _) := fun f hf => h f (List.mem_of_mem_take hf)
  have hc : Holds val (List.take 2 _) := fun f hf => h f (List.mem_of_mem_take hf)
  simp only [List.take_succ_cons, List.take_zero, List.drop_succ_cons, List.drop_zero, Holds, List.forall_mem_cons, List.not_mem_nil, false_implies, implies_true, and_true, Fact.holds, SB.eval, SX.eval, ylike2_0, ylike2_1, ylike2_2, ylike2_3, ylike2_4, ylike2_5, ylike2_6, ylike2_7, ylike2_8, ylike2_9, ylike2_10, ylike2_11, ylike2_12, ylike2_13, ylike2_14, ylike2_15, ylike2_16, ylike2_17, ylike2_18, ylike2_19, ylike2_20, ylike2_21, ylike2_22, ylike2_23, ylike2_24, ylike2_25, ylike2_26, ylike2_27, ylike2_28, wrapU, wrapI, fdivP, tmodP, beq_iff_eq, beq_eq_false_iff_ne, decide_eq_true_eq, decide_eq_false_iff_not, ne_eq] at h ha hb hc
  simp only [Int.reducePow] at h ha hb hc
  first | (clear h hc; omega) | (clear h; omega) | omega

theorem like2_142 (val : Nat → Int) (h : Holds val [.ne (.shr ylike2_4 32) 0, .at ylike2_14 false, .at ylike2_13 false, .at ylike2_9 true, .at ylike2_20 false, .is ylike2_2 2, .ge (.a 0) (-9223372036854775808), .le (.a 0) 9223372036854775807]) : LikeQ val := by
  exfalso
  have hb : Holds val (List.drop 5 _) := fun f hf => h f (List.mem_of_mem_drop hf)
  have ha : Holds val (List.take 1 _) := fun f hf => h f (List.mem_of_mem_take hf)
  have hc : Holds val (List.take 2 _) := fun f hf => h f (List.mem_of_mem_take hf)
  simp only [List.take_succ_cons, List.take_zero, List.drop_succ_cons, List.drop_zero, Holds, List.forall_mem_cons, List.not_mem_nil, false_implies, implies_true, and_true, Fact.holds, SB.eval, SX.eval, ylike2_0, ylike2_1, ylike2_2, ylike2_3, ylike2_4, ylike2_5, ylike2_6, ylike2_7, ylike2_8, ylike2_9, ylike2_10, ylike2_11, ylike2_12, ylike2_13, ylike2_14, ylike2_15, ylike2_16, ylike2_17, ylike2_18, ylike2_19, ylike2_20, ylike2_21, ylike2_22, ylike2_23, ylike2_24, ylike2_25, ylike2_26, ylike2_27, ylike2_28, wrapU, wrapI, fdivP, tmodP, beq_iff_eq, beq_eq_false_iff_ne, decide_eq_true_eq, decide_eq_false_iff_not, ne_eq] at h ha hb hc
  simp only [Int.reducePow] at h ha hb hc
  first | (clear h hc; omega) | (clear h; omega) | omega

theorem like2_143 (val : Nat → Int) (h : Holds val [.le (.a 0) (-2147483649), .at ylike2_9 false, .at ylike2_20 false, .is ylike2_2 2, .ge (.a 0) (-9223372036854775808), .le (.a 0) 9223372036854775807]) : LikeQ val :=
  leafK h (by kernel_rfl)

theorem like2_144 (val : Nat → Int) (h : Holds val [.ge (.a 0) 4294967296, .ge (.a 0) (-2147483648), .at ylike2_9 false, .at ylike2_20 false, .is ylike2_2 2, .ge (.a 0) (-9223372036854775808), .le (.a 0) 9223372036854775807]) : LikeQ val :=
  leafK h (by kernel_rfl)

theorem like2_145 (val : Nat → Int) (h : Holds val [.le (.a 0) 4294967295, .ge (.a 0) (-2147483648), .at ylike2_9 false, .at ylike2_20 false, .is ylike2_2 2, .ge (.a 0) (-9223372036854775808), .le (.a 0) 9223372036854775807]) : LikeQ val := by
  exfalso
  have hb : Holds val (List.drop 4 _) := fun f hf => h f (List.mem_of_mem_drop hf)
  have ha : Holds val (List.take 1 _) := fun f hf => h f (List.mem_of_mem_take hf)
  have hc : Holds val (List.take 2 _) := fun f hf => h f (List.mem_of_mem_take hf)
  simp only [List.take_succ_cons, List.take_zero, List.drop_succ_cons, List.drop_zero, Holds, List.forall_mem_cons, List.not_mem_nil, false_implies, implies_true, and_true, Fact.holds, SB.eval, SX.eval, ylike2_0, ylike2_1, ylike2_2, ylike2_3, ylike2_4, ylike2_5, ylike2_6, ylike2_7, ylike2_8, ylike2_9, ylike2_10, ylike2_11, ylike2_12, ylike2_13, ylike2_14, ylike2_15, ylike2_16, ylike2_17, ylike2_18, ylike2_19, ylike2_20, ylike2_21, ylike2_22, ylike2_23, ylike2_24, ylike2_25, ylike2_26, ylike2_27, ylike2_28, wrapU, wrapI, fdivP, tmodP, beq_iff_eq, beq_eq_false_iff_ne, decide_eq_true_eq, decide_eq_false_iff_not, ne_eq] at h ha hb hc
  simp only [Int.reducePow] at h ha hb hc
  first | (clear h hc; omega) | (clear h; omega) | omega

theorem like2Sub2 (val : Nat → Int) (h : Holds val [.at ylike2_25 false, .at ylike2_12 true, .at ylike2_13 true, .at ylike2_20 true, .is ylike2_2 2, .ge (.a 0) (-9223372036854775808), .le (.a 0) 9223372036854775807]) : LikeQ val :=
  by_way ylike2_26 (.at ylike2_26 true) (.at ylike2_26 false) (by kernel_rfl) (by kernel_rfl) h
  (fun h => by_way ylike2_24 (.at ylike2_24 true) (.at ylike2_24 false) (by kernel_rfl) (by kernel_rfl) h
  (fun h => by_way ylike2_23 (.at ylike2_23 true) (.at ylike2_23 false) (by kernel_rfl) (by kernel_rfl) h
  (fun h => by_way ylike2_19 (.at ylike2_19 true) (.at ylike2_19 false) (by kernel_rfl) (by kernel_rfl) h
  (fun h => by_way (.le (.c (-2147483648)) (.shr ylike2_4 32)) (.ge (.shr ylike2_4 32) (-2147483648)) (.le (.shr ylike2_4 32) (-2147483649)) (by kernel_rfl) (by kernel_rfl) h
  (fun h => by_way (.lt (.shr ylike2_4 32) (.c 2147483648)) (.le (.shr ylike2_4 32) 2147483647) (.ge (.shr ylike2_4 32) 2147483648) (by kernel_rfl) (by kernel_rfl) h
  (fun h => by_way (.le (.c 0) (.wrap .i64 ylike2_3)) (.ge (.wrap .i64 ylike2_3) 0) (.le (.wrap .i64 ylike2_3) (-1)) (by kernel_rfl) (by kernel_rfl) h
  (fun h => by_way (.lt (.wrap .i64 ylike2_3) (.c 4294967296)) (.le (.wrap .i64 ylike2_3) 4294967295) (.ge (.wrap .i64 ylike2_3) 4294967296) (by kernel_rfl) (by kernel_rfl) h
  (fun h => by_way (.eq ylike2_28 (.c 0)) (.is ylike2_28 0) (.ne ylike2_28 0) (by kernel_rfl) (by kernel_rfl) h
  (fun h => by_way (.eq ylike2_27 (.c 0)) (.is ylike2_27 0) (.ne ylike2_27 0) (by kernel_rfl) (by kernel_rfl) h
  (fun h => like2_10 val h)
  (fun h => like2_11 val h))
  (fun h => like2_12 val h))
  (fun h => like2_13 val h))
  (fun h => like2_14 val h))
  (fun h => like2_15 val h))
  (fun h => like2_16 val h))
  (fun h => like2_17 val h))
  (fun h => like2_18 val h))
  (fun h => like2_19 val h))
  (fun h => by_way ylike2_21 (.is (.wrap .i64 ylike2_3) 0) (.ne (.wrap .i64 ylike2_3) 0) (by kernel_rfl) (by kernel_rfl) h
  (fun h => by_way (.eq (.a 0) (.c 0)) (.is (.a 0) 0) (.ne (.a 0) 0) (by kernel_rfl) (by kernel_rfl) h
  (fun h => like2_20 val h)
  (fun h => by_way ylike2_9 (.at ylike2_9 true) (.at ylike2_9 false) (by kernel_rfl) (by kernel_rfl) h
  (fun h => by_way (.eq ylike2_7 (.c 0)) (.is ylike2_7 0) (.ne ylike2_7 0) (by kernel_rfl) (by kernel_rfl) h
  (fun h => by_way ylike2_10 (.is (.shr ylike2_4 32) 0) (.ne (.shr ylike2_4 32) 0) (by kernel_rfl) (by kernel_rfl) h
  (fun h => by_way (.lt (.a 0) (.c (-2147483648))) (.le (.a 0) (-2147483649)) (.ge (.a 0) (-2147483648)) (by kernel_rfl) (by kernel_rfl) h
  (fun h => like2_21 val h)
  (fun h => by_way (.le (.c 4294967296) (.a 0)) (.ge (.a 0) 4294967296) (.le (.a 0) 4294967295) (by kernel_rfl) (by kernel_rfl) h
  (fun h => like2_22 val h)
  (fun h => like2_23 val h)))
  (fun h => by_way ylike2_14 (.at ylike2_14 true) (.at ylike2_14 false) (by kernel_rfl) (by kernel_rfl) h
  (fun h => like2_24 val h)
  (fun h => like2_25 val h)))
  (fun h => like2_26 val h))
  (fun h => by_way (.lt (.a 0) (.c (-2147483648))) (.le (.a 0) (-2147483649)) (.ge (.a 0) (-2147483648)) (by kernel_rfl) (by kernel_rfl) h
  (fun h => like2_27 val h)
  (fun h => by_way (.le (.c 4294967296) (.a 0)) (.ge (.a 0) 4294967296) (.le (.a 0) 4294967295) (by kernel_rfl) (by kernel_rfl) h
  (fun h => like2_28 val h)
  (fun h => like2_29 val h)))))
  (fun h => like2_30 val h))

theorem like2Sub1 (val : Nat → Int) (h : Holds val [.at ylike2_12 true, .at ylike2_13 true, .at ylike2_20 true, .is ylike2_2 2, .ge (.a 0) (-9223372036854775808), .le (.a 0) 9223372036854775807]) : LikeQ val :=
  by_way ylike2_25 (.at ylike2_25 true) (.at ylike2_25 false) (by kernel_rfl) (by kernel_rfl) h
  (fun h => by_way ylike2_24 (.at ylike2_24 true) (.at ylike2_24 false) (by kernel_rfl) (by kernel_rfl) h
  (fun h => by_way ylike2_23 (.at ylike2_23 true) (.at ylike2_23 false) (by kernel_rfl) (by kernel_rfl) h
  (fun h => by_way ylike2_19 (.at ylike2_19 true) (.at ylike2_19 false) (by kernel_rfl) (by kernel_rfl) h
  (fun h => by_way (.le (.c (-2147483648)) (.shr ylike2_4 32)) (.ge (.shr ylike2_4 32) (-2147483648)) (.le (.shr ylike2_4 32) (-2147483649)) (by kernel_rfl) (by kernel_rfl) h
  (fun h => by_way (.lt (.shr ylike2_4 32) (.c 2147483648)) (.le (.shr ylike2_4 32) 2147483647) (.ge (.shr ylike2_4 32) 2147483648) (by kernel_rfl) (by kernel_rfl) h
  (fun h => by_way (.le (.c 0) (.wrap .i64 ylike2_3)) (.ge (.wrap .i64 ylike2_3) 0) (.le (.wrap .i64 ylike2_3) (-1)) (by kernel_rfl) (by kernel_rfl) h
  (fun h => by_way (.lt (.wrap .i64 ylike2_3) (.c 4294967296)) (.le (.wrap .i64 ylike2_3) 4294967295) (.ge (.wrap .i64 ylike2_3) 4294967296) (by kernel_rfl) (by kernel_rfl) h
  (fun h => by_way (.eq ylike2_28 (.c 0)) (.is ylike2_28 0) (.ne ylike2_28 0) (by kernel_rfl) (by kernel_rfl) h
  (fun h => by_way (.eq ylike2_27 (.c 0)) (.is ylike2_27 0) (.ne ylike2_27 0) (by kernel_rfl) (by kernel_rfl) h
  (fun h => like2_0 val h)
  (fun h => like2_1 val h))
  (fun h => like2_2 val h))
  (fun h => like2_3 val h))
  (fun h => like2_4 val h))
  (fun h => like2_5 val h))
  (fun h => like2_6 val h))
  (fun h => like2_7 val h))
  (fun h => like2_8 val h))
  (fun h => like2_9 val h))
  (fun h => like2Sub2 val h)

theorem like2Sub0 (val : Nat → Int) (h : Holds val [.at ylike2_13 true, .at ylike2_20 true, .is ylike2_2 2, .ge (.a 0) (-9223372036854775808), .le (.a 0) 9223372036854775807]) : LikeQ val :=
  by_way ylike2_12 (.at ylike2_12 true) (.at ylike2_12 false) (by kernel_rfl) (by kernel_rfl) h
  (fun h => like2Sub1 val h)
  (fun h => like2_31 val h)

theorem like2Sub6 (val : Nat → Int) (h : Holds val [.at ylike2_25 false, .at ylike2_12 true, .at ylike2_14 true, .at ylike2_13 false, .at ylike2_20 true, .is ylike2_2 2, .ge (.a 0) (-9223372036854775808), .le (.a 0) 9223372036854775807]) : LikeQ val :=
  by_way ylike2_26 (.at ylike2_26 true) (.at ylike2_26 false) (by kernel_rfl) (by kernel_rfl) h
  (fun h => by_way ylike2_24 (.at ylike2_24 true) (.at ylike2_24 false) (by kernel_rfl) (by kernel_rfl) h
  (fun h => by_way ylike2_23 (.at ylike2_23 true) (.at ylike2_23 false) (by kernel_rfl) (by kernel_rfl) h
  (fun h => by_way ylike2_19 (.at ylike2_19 true) (.at ylike2_19 false) (by kernel_rfl) (by kernel_rfl) h
  (fun h => by_way (.le (.c (-2147483648)) (.shr ylike2_4 32)) (.ge (.shr ylike2_4 32) (-2147483648)) (.le (.shr ylike2_4 32) (-2147483649)) (by kernel_rfl) (by kernel_rfl) h
  (fun h => by_way (.lt (.shr ylike2_4 32) (.c 2147483648)) (.le (.shr ylike2_4 32) 2147483647) (.ge (.shr ylike2_4 32) 2147483648) (by kernel_rfl) (by kernel_rfl) h
  (fun h => by_way (.le (.c 0) (.wrap .i64 ylike2_3)) (.ge (.wrap .i64 ylike2_3) 0) (.le (.wrap .i64 ylike2_3) (-1)) (by kernel_rfl) (by kernel_rfl) h
  (fun h => by_way (.lt (.wrap .i64 ylike2_3) (.c 4294967296)) (.le (.wrap .i64 ylike2_3) 4294967295) (.ge (.wrap .i64 ylike2_3) 4294967296) (by kernel_rfl) (by kernel_rfl) h
  (fun h => by_way (.eq ylike2_28 (.c 0)) (.is ylike2_28 0) (.ne ylike2_28 0) (by kernel_rfl) (by kernel_rfl) h
  (fun h => by_way (.eq ylike2_27 (.c 0)) (.is ylike2_27 0) (.ne ylike2_27 0) (by kernel_rfl) (by kernel_rfl) h
  (fun h => like2_42 val h)
  (fun h => like2_43 val h))
  (fun h => like2_44 val h))
  (fun h => like2_45 val h))
  (fun h => like2_46 val h))
  (fun h => like2_47 val h))
  (fun h => like2_48 val h))
  (fun h => like2_49 val h))
  (fun h => like2_50 val h))
  (fun h => like2_51 val h))
  (fun h => by_way ylike2_21 (.is (.wrap .i64 ylike2_3) 0) (.ne (.wrap .i64 ylike2_3) 0) (by kernel_rfl) (by kernel_rfl) h
  (fun h => by_way (.eq (.a 0) (.c 0)) (.is (.a 0) 0) (.ne (.a 0) 0) (by kernel_rfl) (by kernel_rfl) h
  (fun h => like2_52 val h)
  (fun h => by_way ylike2_9 (.at ylike2_9 true) (.at ylike2_9 false) (by kernel_rfl) (by kernel_rfl) h
  (fun h => by_way (.eq ylike2_7 (.c 0)) (.is ylike2_7 0) (.ne ylike2_7 0) (by kernel_rfl) (by kernel_rfl) h
  (fun h => by_way ylike2_10 (.is (.shr ylike2_4 32) 0) (.ne (.shr ylike2_4 32) 0) (by kernel_rfl) (by kernel_rfl) h
  (fun h => by_way (.lt (.a 0) (.c (-2147483648))) (.le (.a 0) (-2147483649)) (.ge (.a 0) (-2147483648)) (by kernel_rfl) (by kernel_rfl) h
  (fun h => like2_53 val h)
  (fun h => by_way (.le (.c 4294967296) (.a 0)) (.ge (.a 0) 4294967296) (.le (.a 0) 4294967295) (by kernel_rfl) (by kernel_rfl) h
  (fun h => like2_54 val h)
  (fun h => like2_55 val h)))
  (fun h => like2_56 val h))
  (fun h => like2_57 val h))
  (fun h => by_way (.lt (.a 0) (.c (-2147483648))) (.le (.a 0) (-2147483649)) (.ge (.a 0) (-2147483648)) (by kernel_rfl) (by kernel_rfl) h
  (fun h => like2_58 val h)
  (fun h => by_way (.le (.c 4294967296) (.a 0)) (.ge (.a 0) 4294967296) (.le (.a 0) 4294967295) (by kernel_rfl) (by kernel_rfl) h
  (fun h => like2_59 val h)
  (fun h => like2_60 val h)))))
  (fun h => like2_61 val h))

theorem like2Sub5 (val : Nat → Int) (h : Holds val [.at ylike2_12 true, .at ylike2_14 true, .at ylike2_13 false, .at ylike2_20 true, .is ylike2_2 2, .ge (.a 0) (-9223372036854775808), .le (.a 0) 9223372036854775807]) : LikeQ val :=
  by_way ylike2_25 (.at ylike2_25 true) (.at ylike2_25 false) (by kernel_rfl) (by kernel_rfl) h
  (fun h => by_way ylike2_24 (.at ylike2_24 true) (.at ylike2_24 false) (by kernel_rfl) (by kernel_rfl) h
  (fun h => by_way ylike2_23 (.at ylike2_23 true) (.at ylike2_23 false) (by kernel_rfl) (by kernel_rfl) h
  (fun h => by_way ylike2_19 (.at ylike2_19 true) (.at ylike2_19 false) (by kernel_rfl) (by kernel_rfl) h
  (fun h => by_way (.le (.c (-2147483648)) (.shr ylike2_4 32)) (.ge (.shr ylike2_4 32) (-2147483648)) (.le (.shr ylike2_4 32) (-2147483649)) (by kernel_rfl) (by kernel_rfl) h
  (fun h => by_way (.lt (.shr ylike2_4 32) (.c 2147483648)) (.le (.shr ylike2_4 32) 2147483647) (.ge (.shr ylike2_4 32) 2147483648) (by kernel_rfl) (by kernel_rfl) h
  (fun h => by_way (.le (.c 0) (.wrap .i64 ylike2_3)) (.ge (.wrap .i64 ylike2_3) 0) (.le (.wrap .i64 ylike2_3) (-1)) (by kernel_rfl) (by kernel_rfl) h
  (fun h => by_way (.lt (.wrap .i64 ylike2_3) (.c 4294967296)) (.le (.wrap .i64 ylike2_3) 4294967295) (.ge (.wrap .i64 ylike2_3) 4294967296) (by kernel_rfl) (by kernel_rfl) h
  (fun h => by_way (.eq ylike2_28 (.c 0)) (.is ylike2_28 0) (.ne ylike2_28 0) (by kernel_rfl) (by kernel_rfl) h
  (fun h => by_way (.eq ylike2_27 (.c 0)) (.is ylike2_27 0) (.ne ylike2_27 0) (by kernel_rfl) (by kernel_rfl) h
  (fun h => like2_32 val h)
  (fun h => like2_33 val h))
  (fun h => like2_34 val h))
  (fun h => like2_35 val h))
  (fun h => like2_36 val h))
  (fun h => like2_37 val h))
  (fun h => like2_38 val h))
  (fun h => like2_39 val h))
  (fun h => like2_40 val h))
  (fun h => like2_41 val h))
  (fun h => like2Sub6 val h)

theorem like2Sub4 (val : Nat → Int) (h : Holds val [.at ylike2_14 true, .at ylike2_13 false, .at ylike2_20 true, .is ylike2_2 2, .ge (.a 0) (-9223372036854775808), .le (.a 0) 9223372036854775807]) : LikeQ val :=
  by_way ylike2_12 (.at ylike2_12 true) (.at ylike2_12 false) (by kernel_rfl) (by kernel_rfl) h
  (fun h => like2Sub5 val h)
  (fun h => like2_62 val h)

theorem like2Sub8 (val : Nat → Int) (h : Holds val [.is (.shr ylike2_4 32) 0, .at ylike2_14 false, .at ylike2_13 false, .at ylike2_20 true, .is ylike2_2 2, .ge (.a 0) (-9223372036854775808), .le (.a 0) 9223372036854775807]) : LikeQ val :=
  by_way ylike2_25 (.at ylike2_25 true) (.at ylike2_25 false) (by kernel_rfl) (by kernel_rfl) h
  (fun h => by_way ylike2_24 (.at ylike2_24 true) (.at ylike2_24 false) (by kernel_rfl) (by kernel_rfl) h
  (fun h => by_way ylike2_21 (.is (.wrap .i64 ylike2_3) 0) (.ne (.wrap .i64 ylike2_3) 0) (by kernel_rfl) (by kernel_rfl) h
  (fun h => by_way (.eq (.a 0) (.c 0)) (.is (.a 0) 0) (.ne (.a 0) 0) (by kernel_rfl) (by kernel_rfl) h
  (fun h => like2_63 val h)
  (fun h => by_way (.lt (.a 0) (.c (-2147483648))) (.le (.a 0) (-2147483649)) (.ge (.a 0) (-2147483648)) (by kernel_rfl) (by kernel_rfl) h
  (fun h => like2_64 val h)
  (fun h => by_way (.le (.c 4294967296) (.a 0)) (.ge (.a 0) 4294967296) (.le (.a 0) 4294967295) (by kernel_rfl) (by kernel_rfl) h
  (fun h => like2_65 val h)
  (fun h => like2_66 val h))))
  (fun h => like2_67 val h))
  (fun h => like2_68 val h))
  (fun h => by_way ylike2_26 (.at ylike2_26 true) (.at ylike2_26 false) (by kernel_rfl) (by kernel_rfl) h
  (fun h => by_way ylike2_24 (.at ylike2_24 true) (.at ylike2_24 false) (by kernel_rfl) (by kernel_rfl) h
  (fun h => by_way ylike2_21 (.is (.wrap .i64 ylike2_3) 0) (.ne (.wrap .i64 ylike2_3) 0) (by kernel_rfl) (by kernel_rfl) h
  (fun h => by_way (.eq (.a 0) (.c 0)) (.is (.a 0) 0) (.ne (.a 0) 0) (by kernel_rfl) (by kernel_rfl) h
  (fun h => like2_69 val h)
  (fun h => by_way (.lt (.a 0) (.c (-2147483648))) (.le (.a 0) (-2147483649)) (.ge (.a 0) (-2147483648)) (by kernel_rfl) (by kernel_rfl) h
  (fun h => like2_70 val h)
  (fun h => by_way (.le (.c 4294967296) (.a 0)) (.ge (.a 0) 4294967296) (.le (.a 0) 4294967295) (by kernel_rfl) (by kernel_rfl) h
  (fun h => like2_71 val h)
  (fun h => like2_72 val h))))
  (fun h => like2_73 val h))
  (fun h => like2_74 val h))
  (fun h => by_way ylike2_21 (.is (.wrap .i64 ylike2_3) 0) (.ne (.wrap .i64 ylike2_3) 0) (by kernel_rfl) (by kernel_rfl) h
  (fun h => by_way (.eq (.a 0) (.c 0)) (.is (.a 0) 0) (.ne (.a 0) 0) (by kernel_rfl) (by kernel_rfl) h
  (fun h => like2_75 val h)
  (fun h => by_way (.lt (.a 0) (.c (-2147483648))) (.le (.a 0) (-2147483649)) (.ge (.a 0) (-2147483648)) (by kernel_rfl) (by kernel_rfl) h
  (fun h => like2_76 val h)
  (fun h => by_way (.le (.c 4294967296) (.a 0)) (.ge (.a 0) 4294967296) (.le (.a 0) 4294967295) (by kernel_rfl) (by kernel_rfl) h
  (fun h => like2_77 val h)
  (fun h => like2_78 val h))))
  (fun h => like2_79 val h)))

theorem like2Sub7 (val : Nat → Int) (h : Holds val [.at ylike2_14 false, .at ylike2_13 false, .at ylike2_20 true, .is ylike2_2 2, .ge (.a 0) (-9223372036854775808), .le (.a 0) 9223372036854775807]) : LikeQ val :=
  by_way (.eq (.c 0) (.shr ylike2_4 32)) (.is (.shr ylike2_4 32) 0) (.ne (.shr ylike2_4 32) 0) (by kernel_rfl) (by kernel_rfl) h
  (fun h => like2Sub8 val h)
  (fun h => like2_80 val h)

theorem like2Sub3 (val : Nat → Int) (h : Holds val [.at ylike2_13 false, .at ylike2_20 true, .is ylike2_2 2, .ge (.a 0) (-9223372036854775808), .le (.a 0) 9223372036854775807]) : LikeQ val :=
  by_way ylike2_14 (.at ylike2_14 true) (.at ylike2_14 false) (by kernel_rfl) (by kernel_rfl) h
  (fun h => like2Sub4 val h)
  (fun h => like2Sub7 val h)

theorem like2Sub11 (val : Nat → Int) (h : Holds val [.at ylike2_25 false, .at ylike2_12 true, .at ylike2_13 true, .at ylike2_9 true, .at ylike2_20 false, .is ylike2_2 2, .ge (.a 0) (-9223372036854775808), .le (.a 0) 9223372036854775807]) : LikeQ val :=
  by_way ylike2_26 (.at ylike2_26 true) (.at ylike2_26 false) (by kernel_rfl) (by kernel_rfl) h
  (fun h => by_way ylike2_24 (.at ylike2_24 true) (.at ylike2_24 false) (by kernel_rfl) (by kernel_rfl) h
  (fun h => by_way ylike2_23 (.at ylike2_23 true) (.at ylike2_23 false) (by kernel_rfl) (by kernel_rfl) h
  (fun h => by_way ylike2_19 (.at ylike2_19 true) (.at ylike2_19 false) (by kernel_rfl) (by kernel_rfl) h
  (fun h => by_way (.le (.c (-2147483648)) (.shr ylike2_4 32)) (.ge (.shr ylike2_4 32) (-2147483648)) (.le (.shr ylike2_4 32) (-2147483649)) (by kernel_rfl) (by kernel_rfl) h
  (fun h => by_way (.lt (.shr ylike2_4 32) (.c 2147483648)) (.le (.shr ylike2_4 32) 2147483647) (.ge (.shr ylike2_4 32) 2147483648) (by kernel_rfl) (by kernel_rfl) h
  (fun h => by_way (.le (.c 0) (.wrap .i64 ylike2_3)) (.ge (.wrap .i64 ylike2_3) 0) (.le (.wrap .i64 ylike2_3) (-1)) (by kernel_rfl) (by kernel_rfl) h
  (fun h => by_way (.lt (.wrap .i64 ylike2_3) (.c 4294967296)) (.le (.wrap .i64 ylike2_3) 4294967295) (.ge (.wrap .i64 ylike2_3) 4294967296) (by kernel_rfl) (by kernel_rfl) h
  (fun h => by_way (.eq ylike2_28 (.c 0)) (.is ylike2_28 0) (.ne ylike2_28 0) (by kernel_rfl) (by kernel_rfl) h
  (fun h => by_way (.eq ylike2_27 (.c 0)) (.is ylike2_27 0) (.ne ylike2_27 0) (by kernel_rfl) (by kernel_rfl) h
  (fun h => like2_91 val h)
  (fun h => like2_92 val h))
  (fun h => like2_93 val h))
  (fun h => like2_94 val h))
  (fun h => like2_95 val h))
  (fun h => like2_96 val h))
  (fun h => like2_97 val h))
  (fun h => like2_98 val h))
  (fun h => like2_99 val h))
  (fun h => like2_100 val h))
  (fun h => by_way ylike2_21 (.is (.wrap .i64 ylike2_3) 0) (.ne (.wrap .i64 ylike2_3) 0) (by kernel_rfl) (by kernel_rfl) h
  (fun h => by_way (.eq (.a 0) (.c 0)) (.is (.a 0) 0) (.ne (.a 0) 0) (by kernel_rfl) (by kernel_rfl) h
  (fun h => like2_101 val h)
  (fun h => by_way (.eq ylike2_7 (.c 0)) (.is ylike2_7 0) (.ne ylike2_7 0) (by kernel_rfl) (by kernel_rfl) h
  (fun h => by_way ylike2_10 (.is (.shr ylike2_4 32) 0) (.ne (.shr ylike2_4 32) 0) (by kernel_rfl) (by kernel_rfl) h
  (fun h => by_way (.lt (.a 0) (.c (-2147483648))) (.le (.a 0) (-2147483649)) (.ge (.a 0) (-2147483648)) (by kernel_rfl) (by kernel_rfl) h
  (fun h => like2_102 val h)
  (fun h => by_way (.le (.c 4294967296) (.a 0)) (.ge (.a 0) 4294967296) (.le (.a 0) 4294967295) (by kernel_rfl) (by kernel_rfl) h
  (fun h => like2_103 val h)
  (fun h => like2_104 val h)))
  (fun h => by_way ylike2_14 (.at ylike2_14 true) (.at ylike2_14 false) (by kernel_rfl) (by kernel_rfl) h
  (fun h => like2_105 val h)
  (fun h => like2_106 val h)))
  (fun h => like2_107 val h)))
  (fun h => like2_108 val h))

theorem like2Sub10 (val : Nat → Int) (h : Holds val [.at ylike2_12 true, .at ylike2_13 true, .at ylike2_9 true, .at ylike2_20 false, .is ylike2_2 2, .ge (.a 0) (-9223372036854775808), .le (.a 0) 9223372036854775807]) : LikeQ val :=
  by_way ylike2_25 (.at ylike2_25 true) (.at ylike2_25 false) (by kernel_rfl) (by kernel_rfl) h
  (fun h => by_way ylike2_24 (.at ylike2_24 true) (.at ylike2_24 false) (by kernel_rfl) (by kernel_rfl) h
  (fun h => by_way ylike2_23 (.at ylike2_23 true) (.at ylike2_23 false) (by kernel_rfl) (by kernel_rfl) h
  (fun h => by_way ylike2_19 (.at ylike2_19 true) (.at ylike2_19 false) (by kernel_rfl) (by kernel_rfl) h
  (fun h => by_way (.le (.c (-2147483648)) (.shr ylike2_4 32)) (.ge (.shr ylike2_4 32) (-2147483648)) (.le (.shr ylike2_4 32) (-2147483649)) (by kernel_rfl) (by kernel_rfl) h
  (fun h => by_way (.lt (.shr ylike2_4 32) (.c 2147483648)) (.le (.shr ylike2_4 32) 2147483647) (.ge (.shr ylike2_4 32) 2147483648) (by kernel_rfl) (by kernel_rfl) h
  (fun h => by_way (.le (.c 0) (.wrap .i64 ylike2_3)) (.ge (.wrap .i64 ylike2_3) 0) (.le (.wrap .i64 ylike2_3) (-1)) (by kernel_rfl) (by kernel_rfl) h
  (fun h => by_way (.lt (.wrap .i64 ylike2_3) (.c 4294967296)) (.le (.wrap .i64 ylike2_3) 4294967295) (.ge (.wrap .i64 ylike2_3) 4294967296) (by kernel_rfl) (by kernel_rfl) h
  (fun h => by_way (.eq ylike2_28 (.c 0)) (.is ylike2_28 0) (.ne ylike2_28 0) (by kernel_rfl) (by kernel_rfl) h
  (fun h => by_way (.eq ylike2_27 (.c 0)) (.is ylike2_27 0) (.ne ylike2_27 0) (by kernel_rfl) (by kernel_rfl) h
  (fun h => like2_81 val h)
  (fun h => like2_82 val h))
  (fun h => like2_83 val h))
  (fun h => like2_84 val h))
  (fun h => like2_85 val h))
  (fun h => like2_86 val h))
  (fun h => like2_87 val h))
  (fun h => like2_88 val h))
  (fun h => like2_89 val h))
  (fun h => like2_90 val h))
  (fun h => like2Sub11 val h)

theorem like2Sub9 (val : Nat → Int) (h : Holds val [.at ylike2_13 true, .at ylike2_9 true, .at ylike2_20 false, .is ylike2_2 2, .ge (.a 0) (-9223372036854775808), .le (.a 0) 9223372036854775807]) : LikeQ val :=
  by_way ylike2_12 (.at ylike2_12 true) (.at ylike2_12 false) (by kernel_rfl) (by kernel_rfl) h
  (fun h => like2Sub10 val h)
  (fun h => like2_109 val h)

theorem like2Sub15 (val : Nat → Int) (h : Holds val [.at ylike2_25 false, .at ylike2_12 true, .at ylike2_14 true, .at ylike2_13 false, .at ylike2_9 true, .at ylike2_20 false, .is ylike2_2 2, .ge (.a 0) (-9223372036854775808), .le (.a 0) 9223372036854775807]) : LikeQ val :=
  by_way ylike2_26 (.at ylike2_26 true) (.at ylike2_26 false) (by kernel_rfl) (by kernel_rfl) h
  (fun h => by_way ylike2_24 (.at ylike2_24 true) (.at ylike2_24 false) (by kernel_rfl) (by kernel_rfl) h
  (fun h => by_way ylike2_23 (.at ylike2_23 true) (.at ylike2_23 false) (by kernel_rfl) (by kernel_rfl) h
  (fun h => by_way ylike2_19 (.at ylike2_19 true) (.at ylike2_19 false) (by kernel_rfl) (by kernel_rfl) h
  (fun h => by_way (.le (.c (-2147483648)) (.shr ylike2_4 32)) (.ge (.shr ylike2_4 32) (-2147483648)) (.le (.shr ylike2_4 32) (-2147483649)) (by kernel_rfl) (by kernel_rfl) h
  (fun h => by_way (.lt (.shr ylike2_4 32) (.c 2147483648)) (.le (.shr ylike2_4 32) 2147483647) (.ge (.shr ylike2_4 32) 2147483648) (by kernel_rfl) (by kernel_rfl) h
  (fun h => by_way (.le (.c 0) (.wrap .i64 ylike2_3)) (.ge (.wrap .i64 ylike2_3) 0) (.le (.wrap .i64 ylike2_3) (-1)) (by kernel_rfl) (by kernel_rfl) h
  (fun h => by_way (.lt (.wrap .i64 ylike2_3) (.c 4294967296)) (.le (.wrap .i64 ylike2_3) 4294967295) (.ge (.wrap .i64 ylike2_3) 4294967296) (by kernel_rfl) (by kernel_rfl) h
  (fun h => by_way (.eq ylike2_28 (.c 0)) (.is ylike2_28 0) (.ne ylike2_28 0) (by kernel_rfl) (by kernel_rfl) h
  (fun h => by_way (.eq ylike2_27 (.c 0)) (.is ylike2_27 0) (.ne ylike2_27 0) (by kernel_rfl) (by kernel_rfl) h
  (fun h => like2_120 val h)
  (fun h => like2_121 val h))
  (fun h => like2_122 val h))
  (fun h => like2_123 val h))
  (fun h => like2_124 val h))
  (fun h => like2_125 val h))
  (fun h => like2_126 val h))
  (fun h => like2_127 val h))
  (fun h => like2_128 val h))
  (fun h => like2_129 val h))
  (fun h => by_way ylike2_21 (.is (.wrap .i64 ylike2_3) 0) (.ne (.wrap .i64 ylike2_3) 0) (by kernel_rfl) (by kernel_rfl) h
  (fun h => by_way (.eq (.a 0) (.c 0)) (.is (.a 0) 0) (.ne (.a 0) 0) (by kernel_rfl) (by kernel_rfl) h
  (fun h => like2_130 val h)
  (fun h => by_way (.eq ylike2_7 (.c 0)) (.is ylike2_7 0) (.ne ylike2_7 0) (by kernel_rfl) (by kernel_rfl) h
  (fun h => by_way ylike2_10 (.is (.shr ylike2_4 32) 0) (.ne (.shr ylike2_4 32) 0) (by kernel_rfl) (by kernel_rfl) h
  (fun h => by_way (.lt (.a 0) (.c (-2147483648))) (.le (.a 0) (-2147483649)) (.ge (.a 0) (-2147483648)) (by kernel_rfl) (by kernel_rfl) h
  (fun h => like2_131 val h)
  (fun h => by_way (.le (.c 4294967296) (.a 0)) (.ge (.a 0) 4294967296) (.le (.a 0) 4294967295) (by kernel_rfl) (by kernel_rfl) h
  (fun h => like2_132 val h)
  (fun h => like2_133 val h)))
  (fun h => like2_134 val h))
  (fun h => like2_135 val h)))
  (fun h => like2_136 val h))

theorem like2Sub14 (val : Nat → Int) (h : Holds val [.at ylike2_12 true, .at ylike2_14 true, .at ylike2_13 false, .at ylike2_9 true, .at ylike2_20 false, .is ylike2_2 2, .ge (.a 0) (-9223372036854775808), .le (.a 0) 9223372036854775807]) : LikeQ val :=
  by_way ylike2_25 (.at ylike2_25 true) (.at ylike2_25 false) (by kernel_rfl) (by kernel_rfl) h
  (fun h => by_way ylike2_24 (.at ylike2_24 true) (.at ylike2_24 false) (by kernel_rfl) (by kernel_rfl) h
  (fun h => by_way ylike2_23 (.at ylike2_23 true) (.at ylike2_23 false) (by kernel_rfl) (by kernel_rfl) h
  (fun h => by_way ylike2_19 (.at ylike2_19 true) (.at ylike2_19 false) (by kernel_rfl) (by kernel_rfl) h
  (fun h => by_way (.le (.c (-2147483648)) (.shr ylike2_4 32)) (.ge (.shr ylike2_4 32) (-2147483648)) (.le (.shr ylike2_4 32) (-2147483649)) (by kernel_rfl) (by kernel_rfl) h
  (fun h => by_way (.lt (.shr ylike2_4 32) (.c 2147483648)) (.le (.shr ylike2_4 32) 2147483647) (.ge (.shr ylike2_4 32) 2147483648) (by kernel_rfl) (by kernel_rfl) h
  (fun h => by_way (.le (.c 0) (.wrap .i64 ylike2_3)) (.ge (.wrap .i64 ylike2_3) 0) (.le (.wrap .i64 ylike2_3) (-1)) (by kernel_rfl) (by kernel_rfl) h
  (fun h => by_way (.lt (.wrap .i64 ylike2_3) (.c 4294967296)) (.le (.wrap .i64 ylike2_3) 4294967295) (.ge (.wrap .i64 ylike2_3) 4294967296) (by kernel_rfl) (by kernel_rfl) h
  (fun h => by_way (.eq ylike2_28 (.c 0)) (.is ylike2_28 0) (.ne ylike2_28 0) (by kernel_rfl) (by kernel_rfl) h
  (fun h => by_way (.eq ylike2_27 (.c 0)) (.is ylike2_27 0) (.ne ylike2_27 0) (by kernel_rfl) (by kernel_rfl) h
  (fun h => like2_110 val h)
  (fun h => like2_111 val h))
  (fun h => like2_112 val h))
  (fun h => like2_113 val h))
  (fun h => like2_114 val h))
  (fun h => like2_115 val h))
  (fun h => like2_116 val h))
  (fun h => like2_117 val h))
  (fun h => like2_118 val h))
  (fun h => like2_119 val h))
  (fun h => like2Sub15 val h)

theorem like2Sub13 (val : Nat → Int) (h : Holds val [.at ylike2_14 true, .at ylike2_13 false, .at ylike2_9 true, .at ylike2_20 false, .is ylike2_2 2, .ge (.a 0) (-9223372036854775808), .le (.a 0) 9223372036854775807]) : LikeQ val :=
  by_way ylike2_12 (.at ylike2_12 true) (.at ylike2_12 false) (by kernel_rfl) (by kernel_rfl) h
  (fun h => like2Sub14 val h)
  (fun h => like2_137 val h)

theorem like2Sub12 (val : Nat → Int) (h : Holds val [.at ylike2_13 false, .at ylike2_9 true, .at ylike2_20 false, .is ylike2_2 2, .ge (.a 0) (-9223372036854775808), .le (.a 0) 9223372036854775807]) : LikeQ val :=
  by_way ylike2_14 (.at ylike2_14 true) (.at ylike2_14 false) (by kernel_rfl) (by kernel_rfl) h
  (fun h => like2Sub13 val h)
  (fun h => by_way (.eq (.c 0) (.shr ylike2_4 32)) (.is (.shr ylike2_4 32) 0) (.ne (.shr ylike2_4 32) 0) (by kernel_rfl) (by kernel_rfl) h
  (fun h => by_way (.eq (.a 0) (.c 0)) (.is (.a 0) 0) (.ne (.a 0) 0) (by kernel_rfl) (by kernel_rfl) h
  (fun h => like2_138 val h)
  (fun h => by_way (.lt (.a 0) (.c (-2147483648))) (.le (.a 0) (-2147483649)) (.ge (.a 0) (-2147483648)) (by kernel_rfl) (by kernel_rfl) h
  (fun h => like2_139 val h)
  (fun h => by_way (.le (.c 4294967296) (.a 0)) (.ge (.a 0) 4294967296) (.le (.a 0) 4294967295) (by kernel_rfl) (by kernel_rfl) h
  (fun h => like2_140 val h)
  (fun h => like2_141 val h))))
  (fun h => like2_142 val h))

theorem like2 (val : Nat → Int) (h : Holds val [.is ylike2_2 2, .ge (.a 0) (-9223372036854775808), .le (.a 0) 9223372036854775807]) : LikeQ val :=
  by_way ylike2_20 (.at ylike2_20 true) (.at ylike2_20 false) (by kernel_rfl) (by kernel_rfl) h
  (fun h => by_way ylike2_13 (.at ylike2_13 true) (.at ylike2_13 false) (by kernel_rfl) (by kernel_rfl) h
  (fun h => like2Sub0 val h)
  (fun h => like2Sub3 val h))
  (fun h => by_way ylike2_9 (.at ylike2_9 true) (.at ylike2_9 false) (by kernel_rfl) (by kernel_rfl) h
  (fun h => by_way ylike2_13 (.at ylike2_13 true) (.at ylike2_13 false) (by kernel_rfl) (by kernel_rfl) h
  (fun h => like2Sub9 val h)
  (fun h => like2Sub12 val h))
  (fun h => by_way (.lt (.a 0) (.c (-2147483648))) (.le (.a 0) (-2147483649)) (.ge (.a 0) (-2147483648)) (by kernel_rfl) (by kernel_rfl) h
  (fun h => like2_143 val h)
  (fun h => by_way (.le (.c 4294967296) (.a 0)) (.ge (.a 0) 4294967296) (.le (.a 0) 4294967295) (by kernel_rfl) (by kernel_rfl) h
  (fun h => like2_144 val h)
  (fun h => like2_145 val h))))

end Go.Proofs.Ytclhjdddakmafaa.Tab
