/-
  Ways through the code, part 0.
-/
import Derived.Test.YtclhjdddakmafaaImmH
namespace Go.Proofs.Ytclhjdddakmafaa.Tab
open Go.Sim
set_option maxRecDepth 100000
set_option linter.unusedSimpArgs false
set_option maxHeartbeats 2000000

abbrev ylike0_0 : SX := .shl (.wrap .u64 (.a 0)) 56
abbrev ylike0_1 : SX := .add (.rem (.a 1) 4) (.c 4)
abbrev ylike0_2 : SX := .rem (.wrap .i64 ylike0_1) 4
abbrev ylike0_3 : SX := .shr (.wrap .u64 ylike0_0) 56
abbrev ylike0_4 : SX := .wrap .i64 (.wrap .u64 ylike0_0)
abbrev ylike0_5 : SX := .wrap .u64 (.shr ylike0_4 56)
abbrev ylike0_6 : SX := .wrap .u64 (.shl ylike0_5 56)
abbrev ylike0_7 : SX := .wrap .i64 (.shr ylike0_6 56)
abbrev ylike0_8 : SX := .shr (.wrap .i64 ylike0_6) 56
abbrev ylike0_9 : SB := .eq (.a 0) (.shr ylike0_4 56)
abbrev ylike0_10 : SB := .eq (.shr ylike0_4 56) (.c 0)
abbrev ylike0_11 : SX := .sub (.shr ylike0_4 56) (.a 0)
abbrev ylike0_12 : SX := .rem (.wrap .i64 ylike0_11) 256
abbrev ylike0_13 : SB := .eq ylike0_8 (.shr ylike0_4 56)
abbrev ylike0_14 : SB := .eq (.shr ylike0_4 56) ylike0_7
abbrev ylike0_15 : SB := .eq (.shr ylike0_4 56) ylike0_8
abbrev ylike0_16 : SX := .wrap .u64 (.wrap .i64 ylike0_3)
abbrev ylike0_17 : SX := .wrap .u64 (.shl ylike0_16 56)
abbrev ylike0_18 : SX := .shr (.wrap .i64 ylike0_17) 56
abbrev ylike0_19 : SX := .wrap .i64 (.shr ylike0_17 56)
abbrev ylike0_20 : SB := .eq ylike0_18 (.shr ylike0_4 56)
abbrev ylike0_21 : SB := .eq (.a 0) (.wrap .i64 ylike0_3)
abbrev ylike0_22 : SB := .eq (.c 0) (.wrap .i64 ylike0_3)
abbrev ylike0_23 : SX := .sub (.wrap .i64 ylike0_3) (.a 0)
abbrev ylike0_24 : SX := .rem (.wrap .i64 ylike0_23) 256
abbrev ylike0_25 : SB := .eq ylike0_7 (.wrap .i64 ylike0_3)
abbrev ylike0_26 : SB := .eq ylike0_19 (.wrap .i64 ylike0_3)
abbrev ylike0_27 : SB := .eq (.wrap .i64 ylike0_3) ylike0_19
abbrev ylike0_28 : SB := .eq (.wrap .i64 ylike0_3) ylike0_18

theorem like0_0 (val : Nat → Int) (h : Holds val [.is ylike0_24 0, .is ylike0_12 0, .le (.wrap .i64 ylike0_3) 255, .ge (.wrap .i64 ylike0_3) 0, .le (.shr ylike0_4 56) 127, .ge (.shr ylike0_4 56) (-128), .at ylike0_20 true, .at ylike0_25 true, .at ylike0_26 true, .at ylike0_27 true, .at ylike0_13 true, .at ylike0_14 true, .at ylike0_21 true, .is ylike0_2 0, .ge (.a 0) (-9223372036854775808), .le (.a 0) 9223372036854775807]) : LikeQ val :=
  leafK h (by kernel_rfl)

theorem like0_1 (val : Nat → Int) (h : Holds val [.ne ylike0_24 0, .is ylike0_12 0, .le (.wrap .i64 ylike0_3) 255, .ge (.wrap .i64 ylike0_3) 0, .le (.shr ylike0_4 56) 127, .ge (.shr ylike0_4 56) (-128), .at ylike0_20 true, .at ylike0_25 true, .at ylike0_26 true, .at ylike0_27 true, .at ylike0_13 true, .at ylike0_14 true, .at ylike0_21 true, .is ylike0_2 0, .ge (.a 0) (-9223372036854775808), .le (.a 0) 9223372036854775807]) : LikeQ val := by
  exfalso
  have hb : Holds val (List.drop 13 _) := fun f hf => h f (List.mem_of_mem_drop hf)
  have ha : Holds val (List.take 1 _) := fun f hf => h f (List.mem_of_mem_take hf)
  have hc : Holds val (List.take 2 _) := fun f hf => h f (List.mem_of_mem_take hf)
  simp only [List.take_succ_cons, List.take_zero, List.drop_succ_cons, List.drop_zero, Holds, List.forall_mem_cons, List.not_mem_nil, false_implies, implies_true, and_true, Fact.holds, SB.eval, SX.eval, ylike0_0, ylike0_1, ylike0_2, ylike0_3, ylike0_4, ylike0_5, ylike0_6, ylike0_7, ylike0_8, ylike0_9, ylike0_10, ylike0_11, ylike0_12, ylike0_13, ylike0_14, ylike0_15, ylike0_16, ylike0_17, ylike0_18, ylike0_19, ylike0_20, ylike0_21, ylike0_22, ylike0_23, ylike0_24, ylike0_25, ylike0_26, ylike0_27, ylike0_28, wrapU, wrapI, fdivP, tmodP, beq_iff_eq, beq_eq_false_iff_ne, decide_eq_true_eq, decide_eq_false_iff_not, ne_eq] at h ha hb hc
  simp only [Int.reducePow] at h ha hb hc
  first | (clear h hc; omega) | (clear h; omega) | omega

theorem like0_2 (val : Nat → Int) (h : Holds val [.ne ylike0_12 0, .le (.wrap .i64 ylike0_3) 255, .ge (.wrap .i64 ylike0_3) 0, .le (.shr ylike0_4 56) 127, .ge (.shr ylike0_4 56) (-128), .at ylike0_20 true, .at ylike0_25 true, .at ylike0_26 true, .at ylike0_27 true, .at ylike0_13 true, .at ylike0_14 true, .at ylike0_21 true, .is ylike0_2 0, .ge (.a 0) (-9223372036854775808), .le (.a 0) 9223372036854775807]) : LikeQ val := by
  exfalso
  have hb : Holds val (List.drop 12 _) := fun f hf => h f (List.mem_of_mem_drop hf)
  have ha : Holds val (List.take 1 _) := fun f hf => h f (List.mem_of_mem_take hf)
  have hc : Holds val (List.take 2 _) := fun f hf => h f (List.mem_of_mem_take hf)
  simp only [List.take_succ_cons, List.take_zero, List.drop_succ_cons, List.drop_zero, Holds, List.forall_mem_cons, List.not_mem_nil, false_implies, implies_true, and_true, Fact.holds, SB.eval, SX.eval, ylike0_0, ylike0_1, ylike0_2, ylike0_3, ylike0_4, ylike0_5, ylike0_6, ylike0_7, ylike0_8, ylike0_9, ylike0_10, ylike0_11, ylike0_12, ylike0_13, ylike0_14, ylike0_15, ylike0_16, ylike0_17, ylike0_18, ylike0_19, ylike0_20, ylike0_21, ylike0_22, ylike0_23, ylike0_24, ylike0_25, ylike0_26, ylike0_27, ylike0_28, wrapU, wrapI, fdivP, tmodP, beq_iff_eq, beq_eq_false_iff_ne, decide_eq_true_eq, decide_eq_false_iff_not, ne_eq] at h ha hb hc
  simp only [Int.reducePow] at h ha hb hc
  first | (clear h hc; omega) | (clear h; omega) | omega

theorem like0_3 (val : Nat → Int) (h : Holds val [.ge (.wrap .i64 ylike0_3) 256, .ge (.wrap .i64 ylike0_3) 0, .le (.shr ylike0_4 56) 127, .ge (.shr ylike0_4 56) (-128), .at ylike0_20 true, .at ylike0_25 true, .at ylike0_26 true, .at ylike0_27 true, .at ylike0_13 true, .at ylike0_14 true, .at ylike0_21 true, .is ylike0_2 0, .ge (.a 0) (-9223372036854775808), .le (.a 0) 9223372036854775807]) : LikeQ val := by
  exfalso
  have hb : Holds val (List.drop 11 _) := fun f hf => h f (List.mem_of_mem_drop hf)
  have ha : Holds val (List.take 1 _) := fun f hf => h f (List.mem_of_mem_take hf)
  have hc : Holds val (List.take 2 _) := fun f hf => h f (List.mem_of_mem_take hf)
  simp only [List.take_succ_cons, List.take_zero, List.drop_succ_cons, List.drop_zero, Holds, List.forall_mem_cons, List.not_mem_nil, false_implies, implies_true, and_true, Fact.holds, SB.eval, SX.eval, ylike0_0, ylike0_1, ylike0_2, ylike0_3, ylike0_4, ylike0_5, ylike0_6, ylike0_7, ylike0_8, ylike0_9, ylike0_10, ylike0_11, ylike0_12, ylike0_13, ylike0_14, ylike0_15, ylike0_16, ylike0_17, ylike0_18, ylike0_19, ylike0_20, ylike0_21, ylike0_22, ylike0_23, ylike0_24, ylike0_25, ylike0_26, ylike0_27, ylike0_28, wrapU, wrapI, fdivP, tmodP, beq_iff_eq, beq_eq_false_iff_ne, decide_eq_true_eq, decide_eq_false_iff_not, ne_eq] at h ha hb hc
  simp only [Int.reducePow] at h ha hb hc
  first | (clear h hc; omega) | (clear h; omega) | omega

theorem like0_4 (val : Nat → Int) (h : Holds val [.le (.wrap .i64 ylike0_3) (-1), .le (.shr ylike0_4 56) 127, .ge (.shr ylike0_4 56) (-128), .at ylike0_20 true, .at ylike0_25 true, .at ylike0_26 true, .at ylike0_27 true, .at ylike0_13 true, .at ylike0_14 true, .at ylike0_21 true, .is ylike0_2 0, .ge (.a 0) (-9223372036854775808), .le (.a 0) 9223372036854775807]) : LikeQ val := by
  exfalso
  have hb : Holds val (List.drop 10 _) := fun f hf => h f (List.mem_of_mem_drop hf)
  have ha : Holds val (List.take 1 _) := fun f hf => h f (List.mem_of_mem_take hf)
  have hc : Holds val (List.take 2 _) := fun f hf => h f (List.mem_of_mem_take hf)
  simp only [List.take_succ_cons, List.take_zero, List.drop_succ_cons, List.drop_zero, Holds, List.forall_mem_cons, List.not_mem_nil, false_implies, implies_true, and_true, Fact.holds, SB.eval, SX.eval, ylike0_0, ylike0_1, ylike0_2, ylike0_3, ylike0_4, ylike0_5, ylike0_6, ylike0_7, ylike0_8, ylike0_9, ylike0_10, ylike0_11, ylike0_12, ylike0_13, ylike0_14, ylike0_15, ylike0_16, ylike0_17, ylike0_18, ylike0_19, ylike0_20, ylike0_21, ylike0_22, ylike0_23, ylike0_24, ylike0_25, ylike0_26, ylike0_27, ylike0_28, wrapU, wrapI, fdivP, tmodP, beq_iff_eq, beq_eq_false_iff_ne, decide_eq_true_eq, decide_eq_false_iff_not, ne_eq] at h ha hb hc
  simp only [Int.reducePow] at h ha hb hc
  first | (clear h hc; omega) | (clear h; omega) | omega

theorem like0_5 (val : Nat → Int) (h : Holds val [.ge (.shr ylike0_4 56) 128, .ge (.shr ylike0_4 56) (-128), .at ylike0_20 true, .at ylike0_25 true, .at ylike0_26 true, .at ylike0_27 true, .at ylike0_13 true, .at ylike0_14 true, .at ylike0_21 true, .is ylike0_2 0, .ge (.a 0) (-9223372036854775808), .le (.a 0) 9223372036854775807]) : LikeQ val := by
  exfalso
  have hb : Holds val (List.drop 9 _) := fun f hf => h f (List.mem_of_mem_drop hf)
  have ha : Holds val (List.take 1 _) := fun f hf => h f (List.mem_of_mem_take hf)
  have hc : Holds val (List.take 2 _) := fun f hf => h f (List.mem_of_mem_take hf)
  simp only [List.take_succ_cons, List.take_zero, List.drop_succ_cons, List.drop_zero, Holds, List.forall_mem_cons, List.not_mem_nil, false_implies, implies_true, and_true, Fact.holds, SB.eval, SX.eval, ylike0_0, ylike0_1, ylike0_2, ylike0_3, ylike0_4, ylike0_5, ylike0_6, ylike0_7, ylike0_8, ylike0_9, ylike0_10, ylike0_11, ylike0_12, ylike0_13, ylike0_14, ylike0_15, ylike0_16, ylike0_17, ylike0_18, ylike0_19, ylike0_20, ylike0_21, ylike0_22, ylike0_23, ylike0_24, ylike0_25, ylike0_26, ylike0_27, ylike0_28, wrapU, wrapI, fdivP, tmodP, beq_iff_eq, beq_eq_false_iff_ne, decide_eq_true_eq, decide_eq_false_iff_not, ne_eq] at h ha hb hc
  simp only [Int.reducePow] at h ha hb hc
  first | (clear h hc; omega) | (clear h; omega) | omega

theorem like0_6 (val : Nat → Int) (h : Holds val [.le (.shr ylike0_4 56) (-129), .at ylike0_20 true, .at ylike0_25 true, .at ylike0_26 true, .at ylike0_27 true, .at ylike0_13 true, .at ylike0_14 true, .at ylike0_21 true, .is ylike0_2 0, .ge (.a 0) (-9223372036854775808), .le (.a 0) 9223372036854775807]) : LikeQ val := by
  exfalso
  have hb : Holds val (List.drop 8 _) := fun f hf => h f (List.mem_of_mem_drop hf)
  have ha : Holds val (List.take 1 _) := fun f hf => h f (List.mem_of_mem_take hf)
  have hc : Holds val (List.take 2 _) := fun f hf => h f (List.mem_of_mem_take hf)
  simp only [List.take_succ_cons, List.take_zero, List.drop_succ_cons, List.drop_zero, Holds, List.forall_mem_cons, List.not_mem_nil, false_implies, implies_true, and_true, Fact.holds, SB.eval, SX.eval, ylike0_0, ylike0_1, ylike0_2, ylike0_3, ylike0_4, ylike0_5, ylike0_6, ylike0_7, ylike0_8, ylike0_9, ylike0_10, ylike0_11, ylike0_12, ylike0_13, ylike0_14, ylike0_15, ylike0_16, ylike0_17, ylike0_18, ylike0_19, ylike0_20, ylike0_21, ylike0_22, ylike0_23, ylike0_24, ylike0_25, ylike0_26, ylike0_27, ylike0_28, wrapU, wrapI, fdivP, tmodP, beq_iff_eq, beq_eq_false_iff_ne, decide_eq_true_eq, decide_eq_false_iff_not, ne_eq] at h ha hb hc
  simp only [Int.reducePow] at h ha hb hc
  first | (clear h hc; omega) | (clear h; omega) | omega

theorem like0_7 (val : Nat → Int) (h : Holds val [.at ylike0_20 false, .at ylike0_25 true, .at ylike0_26 true, .at ylike0_27 true, .at ylike0_13 true, .at ylike0_14 true, .at ylike0_21 true, .is ylike0_2 0, .ge (.a 0) (-9223372036854775808), .le (.a 0) 9223372036854775807]) : LikeQ val := by
  exfalso
  have hb : Holds val (List.drop 7 _) := fun f hf => h f (List.mem_of_mem_drop hf)
  have ha : Holds val (List.take 1 _) := fun f hf => h f (List.mem_of_mem_take hf)
  have hc : Holds val (List.take 2 _) := fun f hf => h f (List.mem_of_mem_take hf)
  simp only [List.take_succ_cons, List.take_zero, List.drop_succ_cons, List.drop_zero, Holds, List.forall_mem_cons, List.not_mem_nil, false_implies, implies_true, and_true, Fact.holds, SB.eval, SX.eval, ylike0_0, ylike0_1, ylike0_2, ylike0_3, ylike0_4, ylike0_5, ylike0_6, ylike0_7, ylike0_8, ylike0_9, ylike0_10, ylike0_11, ylike0_12, ylike0_13, ylike0_14, ylike0_15, ylike0_16, ylike0_17, ylike0_18, ylike0_19, ylike0_20, ylike0_21, ylike0_22, ylike0_23, ylike0_24, ylike0_25, ylike0_26, ylike0_27, ylike0_28, wrapU, wrapI, fdivP, tmodP, beq_iff_eq, beq_eq_false_iff_ne, decide_eq_true_eq, decide_eq_false_iff_not, ne_eq] at h ha hb hc
  simp only [Int.reducePow] at h ha hb hc
  first | (clear h hc; omega) | (clear h; omega) | omega

theorem like0_8 (val : Nat → Int) (h : Holds val [.at ylike0_25 false, .at ylike0_26 true, .at ylike0_27 true, .at ylike0_13 true, .at ylike0_14 true, .at ylike0_21 true, .is ylike0_2 0, .ge (.a 0) (-9223372036854775808), .le (.a 0) 9223372036854775807]) : LikeQ val := by
  exfalso
  have hb : Holds val (List.drop 6 _) := fun f hf => h f (List.mem_of_mem_drop hf)
  have ha : Holds val (List.take 1 _) := fun f hf => h f (List.mem_of_mem_take hf)
  have hc : Holds val (List.take 2 _) := fun f hf => h f (List.mem_of_mem_take hf)
  simp only [List.take_succ_cons, List.take_zero, List.drop_succ_cons, List.drop_zero, Holds, List.forall_mem_cons, List.not_mem_nil, false_implies, implies_true, and_true, Fact.holds, SB.eval, SX.eval, ylike0_0, ylike0_1, ylike0_2, ylike0_3, ylike0_4, ylike0_5, ylike0_6, ylike0_7, ylike0_8, ylike0_9, ylike0_10, ylike0_11, ylike0_12, ylike0_13, ylike0_14, ylike0_15, ylike0_16, ylike0_17, ylike0_18, ylike0_19, ylike0_20, ylike0_21, ylike0_22, ylike0_23, ylike0_24, ylike0_25, ylike0_26, ylike0_27, ylike0_28, wrapU, wrapI, fdivP, tmodP, beq_iff_eq, beq_eq_false_iff_ne, decide_eq_true_eq, decide_eq_false_iff_not, ne_eq] at h ha hb hc
  simp only [Int.reducePow] at h ha hb hc
  first | (clear h hc; omega) | (clear h; omega) | omega

theorem like0_9 (val : Nat → Int) (h : Holds val [.at ylike0_26 false, .at ylike0_27 true, .at ylike0_13 true, .at ylike0_14 true, .at ylike0_21 true, .is ylike0_2 0, .ge (.a 0) (-9223372036854775808), .le (.a 0) 9223372036854775807]) : LikeQ val := by
  exfalso
  have hb : Holds val (List.drop 5 _) := fun f hf => h f (List.mem_of_mem_drop hf)
  have ha : Holds val (List.take 1 _) := fun f hf => h f (List.mem_of_mem_take hf)
  have hc : Holds val (List.take 2 _) := fun f hf => h f (List.mem_of_mem_take hf)
  simp only [List.take_succ_cons, List.take_zero, List.drop_succ_cons, List.drop_zero, Holds, List.forall_mem_cons, List.not_mem_nil, false_implies, implies_true, and_true, Fact.holds, SB.eval, SX.eval, ylike0_0, ylike0_1, ylike0_2, ylike0_3, ylike0_4, ylike0_5, ylike0_6, ylike0_7, ylike0_8, ylike0_9, ylike0_10, ylike0_11, ylike0_12, ylike0_13, ylike0_14, ylike0_15, ylike0_16, ylike0_17, ylike0_18, ylike0_19, ylike0_20, ylike0_21, ylike0_22, ylike0_23, ylike0_24, ylike0_25, ylike0_26, ylike0_27, ylike0_28, wrapU, wrapI, fdivP, tmodP, beq_iff_eq, beq_eq_false_iff_ne, decide_eq_true_eq, decide_eq_false_iff_not, ne_eq] at h ha hb hc
  simp only [Int.reducePow] at h ha hb hc
  first | (clear h hc; omega) | (clear h; omega) | omega

theorem like0_10 (val : Nat → Int) (h : Holds val [.is ylike0_24 0, .is ylike0_12 0, .le (.wrap .i64 ylike0_3) 255, .ge (.wrap .i64 ylike0_3) 0, .le (.shr ylike0_4 56) 127, .ge (.shr ylike0_4 56) (-128), .at ylike0_20 true, .at ylike0_25 true, .at ylike0_26 true, .at ylike0_28 true, .at ylike0_27 false, .at ylike0_13 true, .at ylike0_14 true, .at ylike0_21 true, .is ylike0_2 0, .ge (.a 0) (-9223372036854775808), .le (.a 0) 9223372036854775807]) : LikeQ val :=
  leafK h (by kernel_rfl)

theorem like0_11 (val : Nat → Int) (h : Holds val [.ne ylike0_24 0, .is ylike0_12 0, .le (.wrap .i64 ylike0_3) 255, .ge (.wrap .i64 ylike0_3) 0, .le (.shr ylike0_4 56) 127, .ge (.shr ylike0_4 56) (-128), .at ylike0_20 true, .at ylike0_25 true, .at ylike0_26 true, .at ylike0_28 true, .at ylike0_27 false, .at ylike0_13 true, .at ylike0_14 true, .at ylike0_21 true, .is ylike0_2 0, .ge (.a 0) (-9223372036854775808), .le (.a 0) 9223372036854775807]) : LikeQ val := by
  exfalso
  have hb : Holds val (List.drop 14 _) := fun f hf => h f (List.mem_of_mem_drop hf)
  have ha : Holds val (List.take 1 _) := fun f hf => h f (List.mem_of_mem_take hf)
  have hc : Holds val (List.take 2 _) := fun f hf => h f (List.mem_of_mem_take hf)
  simp only [List.take_succ_cons, List.take_zero, List.drop_succ_cons, List.drop_zero, Holds, List.forall_mem_cons, List.not_mem_nil, false_implies, implies_true, and_true, Fact.holds, SB.eval, SX.eval, ylike0_0, ylike0_1, ylike0_2, ylike0_3, ylike0_4, ylike0_5, ylike0_6, ylike0_7, ylike0_8, ylike0_9, ylike0_10, ylike0_11, ylike0_12, ylike0_13, ylike0_14, ylike0_15, ylike0_16, ylike0_17, ylike0_18, ylike0_19, ylike0_20, ylike0_21, ylike0_22, ylike0_23, ylike0_24, ylike0_25, ylike0_26, ylike0_27, ylike0_28, wrapU, wrapI, fdivP, tmodP, beq_iff_eq, beq_eq_false_iff_ne, decide_eq_true_eq, decide_eq_false_iff_not, ne_eq] at h ha hb hc
  simp only [Int.reducePow] at h ha hb hc
  first | (clear h hc; omega) | (clear h; omega) | omega

theorem like0_12 (val : Nat → Int) (h : Holds val [.ne ylike0_12 0, .le (.wrap .i64 ylike0_3) 255, .ge (.wrap .i64 ylike0_3) 0, .le (.shr ylike0_4 56) 127, .ge (.shr ylike0_4 56) (-128), .at ylike0_20 true, .at ylike0_25 true, .at ylike0_26 true, .at ylike0_28 true, .at ylike0_27 false, .at ylike0_13 true, .at ylike0_14 true, .at ylike0_21 true, .is ylike0_2 0, .ge (.a 0) (-9223372036854775808), .le (.a 0) 9223372036854775807]) : LikeQ val := by
  exfalso
  have hb : Holds val (List.drop 13 _) := fun f hf => h f (List.mem_of_mem_drop hf)
  have ha : Holds val (List.take 1 _) := fun f hf => h f (List.mem_of_mem_take hf)
  have hc : Holds val (List.take 2 _) := fun f hf => h f (List.mem_of_mem_take hf)
  simp only [List.take_succ_cons, List.take_zero, List.drop_succ_cons, List.drop_zero, Holds, List.forall_mem_cons, List.not_mem_nil, false_implies, implies_true, and_true, Fact.holds, SB.eval, SX.eval, ylike0_0, ylike0_1, ylike0_2, ylike0_3, ylike0_4, ylike0_5, ylike0_6, ylike0_7, ylike0_8, ylike0_9, ylike0_10, ylike0_11, ylike0_12, ylike0_13, ylike0_14, ylike0_15, ylike0_16, ylike0_17, ylike0_18, ylike0_19, ylike0_20, ylike0_21, ylike0_22, ylike0_23, ylike0_24, ylike0_25, ylike0_26, ylike0_27, ylike0_28, wrapU, wrapI, fdivP, tmodP, beq_iff_eq, beq_eq_false_iff_ne, decide_eq_true_eq, decide_eq_false_iff_not, ne_eq] at h ha hb hc
  simp only [Int.reducePow] at h ha hb hc
  first | (clear h hc; omega) | (clear h; omega) | omega

theorem like0_13 (val : Nat → Int) (h : Holds val [.ge (.wrap .i64 ylike0_3) 256, .ge (.wrap .i64 ylike0_3) 0, .le (.shr ylike0_4 56) 127, .ge (.shr ylike0_4 56) (-128), .at ylike0_20 true, .at ylike0_25 true, .at ylike0_26 true, .at ylike0_28 true, .at ylike0_27 false, .at ylike0_13 true, .at ylike0_14 true, .at ylike0_21 true, .is ylike0_2 0, .ge (.a 0) (-9223372036854775808), .le (.a 0) 9223372036854775807]) : LikeQ val := by
  exfalso
  have hb : Holds val (List.drop 12 _) := fun f hf => h f (List.mem_of_mem_drop hf)
  have ha : Holds val (List.take 1 _) := fun f hf => h f (List.mem_of_mem_take hf)
  have hc : Holds val (List.take 2 _) := fun f hf => h f (List.mem_of_mem_take hf)
  simp only [List.take_succ_cons, List.take_zero, List.drop_succ_cons, List.drop_zero, Holds, List.forall_mem_cons, List.not_mem_nil, false_implies, implies_true, and_true, Fact.holds, SB.eval, SX.eval, ylike0_0, ylike0_1, ylike0_2, ylike0_3, ylike0_4, ylike0_5, ylike0_6, ylike0_7, ylike0_8, ylike0_9, ylike0_10, ylike0_11, ylike0_12, ylike0_13, ylike0_14, ylike0_15, ylike0_16, ylike0_17, ylike0_18, ylike0_19, ylike0_20, ylike0_21, ylike0_22, ylike0_23, ylike0_24, ylike0_25, ylike0_26, ylike0_27, ylike0_28, wrapU, wrapI, fdivP, tmodP, beq_iff_eq, beq_eq_false_iff_ne, decide_eq_true_eq, decide_eq_false_iff_not, ne_eq] at h ha hb hc
  simp only [Int.reducePow] at h ha hb hc
  first | (clear h hc; omega) | (clear h; omega) | omega

theorem like0_14 (val : Nat → Int) (h : Holds val [.le (.wrap .i64 ylike0_3) (-1), .le (.shr ylike0_4 56) 127, .ge (.shr ylike0_4 56) (-128), .at ylike0_20 true, .at ylike0_25 true, .at ylike0_26 true, .at ylike0_28 true, .at ylike0_27 false, .at ylike0_13 true, .at ylike0_14 true, .at ylike0_21 true, .is ylike0_2 0, .ge (.a 0) (-9223372036854775808), .le (.a 0) 9223372036854775807]) : LikeQ val := by
  exfalso
  have hb : Holds val (List.drop 11 _) := fun f hf => h f (List.mem_of_mem_drop hf)
  have ha : Holds val (List.take 1 _) := fun f hf => h f (List.mem_of_mem_take hf)
  have hc : Holds val (List.take 2 _) := fun f hf => h f (List.mem_of_mem_take hf)
  simp only [List.take_succ_cons, List.take_zero, List.drop_succ_cons, List.drop_zero, Holds, List.forall_mem_cons, List.not_mem_nil, false_implies, implies_true, and_true, Fact.holds, SB.eval, SX.eval, ylike0_0, ylike0_1, ylike0_2, ylike0_3, ylike0_4, ylike0_5, ylike0_6, ylike0_7, ylike0_8, ylike0_9, ylike0_10, ylike0_11, ylike0_12, ylike0_13, ylike0_14, ylike0_15, ylike0_16, ylike0_17, ylike0_18, ylike0_19, ylike0_20, ylike0_21, ylike0_22, ylike0_23, ylike0_24, ylike0_25, ylike0_26, ylike0_27, ylike0_28, wrapU, wrapI, fdivP, tmodP, beq_iff_eq, beq_eq_false_iff_ne, decide_eq_true_eq, decide_eq_false_iff_not, ne_eq] at h ha hb hc
  simp only [Int.reducePow] at h ha hb hc
  first | (clear h hc; omega) | (clear h; omega) | omega

theorem like0_15 (val : Nat → Int) (h : Holds val [.ge (.shr ylike0_4 56) 128, .ge (.shr ylike0_4 56) (-128), .at ylike0_20 true, .at ylike0_25 true, .at ylike0_26 true, .at ylike0_28 true, .at ylike0_27 false, .at ylike0_13 true, .at ylike0_14 true, .at ylike0_21 true, .is ylike0_2 0, .ge (.a 0) (-9223372036854775808), .le (.a 0) 9223372036854775807]) : LikeQ val := by
  exfalso
  have hb : Holds val (List.drop 10 _) := fun f hf => h f (List.mem_of_mem_drop hf)
  have ha : Holds val (List.take 1 _) := fun f hf => h f (List.mem_of_mem_take hf)
  have hc : Holds val (List.take 2 _) := fun f hf => h f (List.mem_of_mem_take hf)
  simp only [List.take_succ_cons, List.take_zero, List.drop_succ_cons, List.drop_zero, Holds, List.forall_mem_cons, List.not_mem_nil, false_implies, implies_true, and_true, Fact.holds, SB.eval, SX.eval, ylike0_0, ylike0_1, ylike0_2, ylike0_3, ylike0_4, ylike0_5, ylike0_6, ylike0_7, ylike0_8, ylike0_9, ylike0_10, ylike0_11, ylike0_12, ylike0_13, ylike0_14, ylike0_15, ylike0_16, ylike0_17, ylike0_18, ylike0_19, ylike0_20, ylike0_21, ylike0_22, ylike0_23, ylike0_24, ylike0_25, ylike0_26, ylike0_27, ylike0_28, wrapU, wrapI, fdivP, tmodP, beq_iff_eq, beq_eq_false_iff_ne, decide_eq_true_eq, decide_eq_false_iff_not, ne_eq] at h ha hb hc
  simp only [Int.reducePow] at h ha hb hc
  first | (clear h hc; omega) | (clear h; omega) | omega

theorem like0_16 (val : Nat → Int) (h : Holds val [.le (.shr ylike0_4 56) (-129), .at ylike0_20 true, .at ylike0_25 true, .at ylike0_26 true, .at ylike0_28 true, .at ylike0_27 false, .at ylike0_13 true, .at ylike0_14 true, .at ylike0_21 true, .is ylike0_2 0, .ge (.a 0) (-9223372036854775808), .le (.a 0) 9223372036854775807]) : LikeQ val := by
  exfalso
  have hb : Holds val (List.drop 9 _) := fun f hf => h f (List.mem_of_mem_drop hf)
  have ha : Holds val (List.take 1 _) := fun f hf => h f (List.mem_of_mem_take hf)
  have hc : Holds val (List.take 2 _) := fun f hf => h f (List.mem_of_mem_take hf)
  simp only [List.take_succ_cons, List.take_zero, List.drop_succ_cons, List.drop_zero, Holds, List.forall_mem_cons, List.not_mem_nil, false_implies, implies_true, and_true, Fact.holds, SB.eval, SX.eval, ylike0_0, ylike0_1, ylike0_2, ylike0_3, ylike0_4, ylike0_5, ylike0_6, ylike0_7, ylike0_8, ylike0_9, ylike0_10, ylike0_11, ylike0_12, ylike0_13, ylike0_14, ylike0_15, ylike0_16, ylike0_17, ylike0_18, ylike0_19, ylike0_20, ylike0_21, ylike0_22, ylike0_23, ylike0_24, ylike0_25, ylike0_26, ylike0_27, ylike0_28, wrapU, wrapI, fdivP, tmodP, beq_iff_eq, beq_eq_false_iff_ne, decide_eq_true_eq, decide_eq_false_iff_not, ne_eq] at h ha hb hc
  simp only [Int.reducePow] at h ha hb hc
  first | (clear h hc; omega) | (clear h; omega) | omega

theorem like0_17 (val : Nat → Int) (h : Holds val [.at ylike0_20 false, .at ylike0_25 true, .at ylike0_26 true, .at ylike0_28 true, .at ylike0_27 false, .at ylike0_13 true, .at ylike0_14 true, .at ylike0_21 true, .is ylike0_2 0, .ge (.a 0) (-9223372036854775808), .le (.a 0) 9223372036854775807]) : LikeQ val := by
  exfalso
  have hb : Holds val (List.drop 8 _) := fun f hf => h f (List.mem_of_mem_drop hf)
  have ha : Holds val (List.take 1 _) := fun f hf => h f (List.mem_of_mem_take hf)
  have hc : Holds val (List.take 2 _) := fun f hf => h f (List.mem_of_mem_take hf)
  simp only [List.take_succ_cons, List.take_zero, List.drop_succ_cons, List.drop_zero, Holds, List.forall_mem_cons, List.not_mem_nil, false_implies, implies_true, and_true, Fact.holds, SB.eval, SX.eval, ylike0_0, ylike0_1, ylike0_2, ylike0_3, ylike0_4, ylike0_5, ylike0_6, ylike0_7, ylike0_8, ylike0_9, ylike0_10, ylike0_11, ylike0_12, ylike0_13, ylike0_14, ylike0_15, ylike0_16, ylike0_17, ylike0_18, ylike0_19, ylike0_20, ylike0_21, ylike0_22, ylike0_23, ylike0_24, ylike0_25, ylike0_26, ylike0_27, ylike0_28, wrapU, wrapI, fdivP, tmodP, beq_iff_eq, beq_eq_false_iff_ne, decide_eq_true_eq, decide_eq_false_iff_not, ne_eq] at h ha hb hc
  simp only [Int.reducePow] at h ha hb hc
  first | (clear h hc; omega) | (clear h; omega) | omega

theorem like0_18 (val : Nat → Int) (h : Holds val [.at ylike0_25 false, .at ylike0_26 true, .at ylike0_28 true, .at ylike0_27 false, .at ylike0_13 true, .at ylike0_14 true, .at ylike0_21 true, .is ylike0_2 0, .ge (.a 0) (-9223372036854775808), .le (.a 0) 9223372036854775807]) : LikeQ val := by
  exfalso
  have hb : Holds val (List.drop 7 _) := fun f hf => h f (List.mem_of_mem_drop hf)
  have ha : Holds val (List.take 1 _) := fun f hf => h f (List.mem_of_mem_take hf)
  have hc : Holds val (List.take 2 _) := fun f hf => h f (List.mem_of_mem_take hf)
  simp only [List.take_succ_cons, List.take_zero, List.drop_succ_cons, List.drop_zero, Holds, List.forall_mem_cons, List.not_mem_nil, false_implies, implies_true, and_true, Fact.holds, SB.eval, SX.eval, ylike0_0, ylike0_1, ylike0_2, ylike0_3, ylike0_4, ylike0_5, ylike0_6, ylike0_7, ylike0_8, ylike0_9, ylike0_10, ylike0_11, ylike0_12, ylike0_13, ylike0_14, ylike0_15, ylike0_16, ylike0_17, ylike0_18, ylike0_19, ylike0_20, ylike0_21, ylike0_22, ylike0_23, ylike0_24, ylike0_25, ylike0_26, ylike0_27, ylike0_28, wrapU, wrapI, fdivP, tmodP, beq_iff_eq, beq_eq_false_iff_ne, decide_eq_true_eq, decide_eq_false_iff_not, ne_eq] at h ha hb hc
  simp only [Int.reducePow] at h ha hb hc
  first | (clear h hc; omega) | (clear h; omega) | omega

theorem like0_19 (val : Nat → Int) (h : Holds val [.at ylike0_26 false, .at ylike0_28 true, .at ylike0_27 false, .at ylike0_13 true, .at ylike0_14 true, .at ylike0_21 true, .is ylike0_2 0, .ge (.a 0) (-9223372036854775808), .le (.a 0) 9223372036854775807]) : LikeQ val := by
  exfalso
  have hb : Holds val (List.drop 6 _) := fun f hf => h f (List.mem_of_mem_drop hf)
  have ha : Holds val (List.take 1 _) := fun f hf => h f (List.mem_of_mem_take hf)
  have hc : Holds val (List.take 2 _) := fun f hf => h f (List.mem_of_mem_take hf)
  simp only [List.take_succ_cons, List.take_zero, List.drop_succ_cons, List.drop_zero, Holds, List.forall_mem_cons, List.not_mem_nil, false_implies, implies_true, and_true, Fact.holds, SB.eval, SX.eval, ylike0_0, ylike0_1, ylike0_2, ylike0_3, ylike0_4, ylike0_5, ylike0_6, ylike0_7, ylike0_8, ylike0_9, ylike0_10, ylike0_11, ylike0_12, ylike0_13, ylike0_14, ylike0_15, ylike0_16, ylike0_17, ylike0_18, ylike0_19, ylike0_20, ylike0_21, ylike0_22, ylike0_23, ylike0_24, ylike0_25, ylike0_26, ylike0_27, ylike0_28, wrapU, wrapI, fdivP, tmodP, beq_iff_eq, beq_eq_false_iff_ne, decide_eq_true_eq, decide_eq_false_iff_not, ne_eq] at h ha hb hc
  simp only [Int.reducePow] at h ha hb hc
  first | (clear h hc; omega) | (clear h; omega) | omega

theorem like0_20 (val : Nat → Int) (h : Holds val [.is (.a 0) 0, .is (.wrap .i64 ylike0_3) 0, .at ylike0_28 false, .at ylike0_27 false, .at ylike0_13 true, .at ylike0_14 true, .at ylike0_21 true, .is ylike0_2 0, .ge (.a 0) (-9223372036854775808), .le (.a 0) 9223372036854775807]) : LikeQ val :=
  leafK h (by kernel_rfl)

theorem like0_21 (val : Nat → Int) (h : Holds val [.le (.a 0) (-129), .is (.shr ylike0_4 56) 0, .is ylike0_7 0, .at ylike0_9 true, .ne (.a 0) 0, .is (.wrap .i64 ylike0_3) 0, .at ylike0_28 false, .at ylike0_27 false, .at ylike0_13 true, .at ylike0_14 true, .at ylike0_21 true, .is ylike0_2 0, .ge (.a 0) (-9223372036854775808), .le (.a 0) 9223372036854775807]) : LikeQ val :=
  leafK h (by kernel_rfl)

theorem like0_22 (val : Nat → Int) (h : Holds val [.ge (.a 0) 256, .ge (.a 0) (-128), .is (.shr ylike0_4 56) 0, .is ylike0_7 0, .at ylike0_9 true, .ne (.a 0) 0, .is (.wrap .i64 ylike0_3) 0, .at ylike0_28 false, .at ylike0_27 false, .at ylike0_13 true, .at ylike0_14 true, .at ylike0_21 true, .is ylike0_2 0, .ge (.a 0) (-9223372036854775808), .le (.a 0) 9223372036854775807]) : LikeQ val :=
  leafK h (by kernel_rfl)

theorem like0_23 (val : Nat → Int) (h : Holds val [.le (.a 0) 255, .ge (.a 0) (-128), .is (.shr ylike0_4 56) 0, .is ylike0_7 0, .at ylike0_9 true, .ne (.a 0) 0, .is (.wrap .i64 ylike0_3) 0, .at ylike0_28 false, .at ylike0_27 false, .at ylike0_13 true, .at ylike0_14 true, .at ylike0_21 true, .is ylike0_2 0, .ge (.a 0) (-9223372036854775808), .le (.a 0) 9223372036854775807]) : LikeQ val := by
  exfalso
  have hb : Holds val (List.drop 12 _) := fun f hf => h f (List.mem_of_mem_drop hf)
  have ha : Holds val (List.take 1 _) := fun f hf => h f (List.mem_of_mem_take hf)
  have hc : Holds val (List.take 2 _) := fun f hf => h f (List.mem_of_mem_take hf)
  simp only [List.take_succ_cons, List.take_zero, List.drop_succ_cons, List.drop_zero, Holds, List.forall_mem_cons, List.not_mem_nil, false_implies, implies_true, and_true, Fact.holds, SB.eval, SX.eval, ylike0_0, ylike0_1, ylike0_2, ylike0_3, ylike0_4, ylike0_5, ylike0_6, ylike0_7, ylike0_8, ylike0_9, ylike0_10, ylike0_11, ylike0_12, ylike0_13, ylike0_14, ylike0_15, ylike0_16, ylike0_17, ylike0_18, ylike0_19, ylike0_20, ylike0_21, ylike0_22, ylike0_23, ylike0_24, ylike0_25, ylike0_26, ylike0_27, ylike0_28, wrapU, wrapI, fdivP, tmodP, beq_iff_eq, beq_eq_false_iff_ne, decide_eq_true_eq, decide_eq_false_iff_not, ne_eq] at h ha hb hc
  simp only [Int.reducePow] at h ha hb hc
  first | (clear h hc; omega) | (clear h; omega) | omega

theorem like0_24 (val : Nat → Int) (h : Holds val [.at ylike0_15 true, .ne (.shr ylike0_4 56) 0, .is ylike0_7 0, .at ylike0_9 true, .ne (.a 0) 0, .is (.wrap .i64 ylike0_3) 0, .at ylike0_28 false, .at ylike0_27 false, .at ylike0_13 true, .at ylike0_14 true, .at ylike0_21 true, .is ylike0_2 0, .ge (.a 0) (-9223372036854775808), .le (.a 0) 9223372036854775807]) : LikeQ val := by
  exfalso
  have hb : Holds val (List.drop 11 _) := fun f hf => h f (List.mem_of_mem_drop hf)
  have ha : Holds val (List.take 1 _) := fun f hf => h f (List.mem_of_mem_take hf)
  have hc : Holds val (List.take 2 _) := fun f hf => h f (List.mem_of_mem_take hf)
  simp only [List.take_succ_cons, List.take_zero, List.drop_succ_cons, List.drop_zero, Holds, List.forall_mem_cons, List.not_mem_nil, false_implies, implies_true, and_true, Fact.holds, SB.eval, SX.eval, ylike0_0, ylike0_1, ylike0_2, ylike0_3, ylike0_4, ylike0_5, ylike0_6, ylike0_7, ylike0_8, ylike0_9, ylike0_10, ylike0_11, ylike0_12, ylike0_13, ylike0_14, ylike0_15, ylike0_16, ylike0_17, ylike0_18, ylike0_19, ylike0_20, ylike0_21, ylike0_22, ylike0_23, ylike0_24, ylike0_25, ylike0_26, ylike0_27, ylike0_28, wrapU, wrapI, fdivP, tmodP, beq_iff_eq, beq_eq_false_iff_ne, decide_eq_true_eq, decide_eq_false_iff_not, ne_eq] at h ha hb hc
  simp only [Int.reducePow] at h ha hb hc
  first | (clear h hc; omega) | (clear h; omega) | omega

theorem like0_25 (val : Nat → Int) (h : Holds val [.at ylike0_15 false, .ne (.shr ylike0_4 56) 0, .is ylike0_7 0, .at ylike0_9 true, .ne (.a 0) 0, .is (.wrap .i64 ylike0_3) 0, .at ylike0_28 false, .at ylike0_27 false, .at ylike0_13 true, .at ylike0_14 true, .at ylike0_21 true, .is ylike0_2 0, .ge (.a 0) (-9223372036854775808), .le (.a 0) 9223372036854775807]) : LikeQ val := by
  exfalso
  have hb : Holds val (List.drop 11 _) := fun f hf => h f (List.mem_of_mem_drop hf)
  have ha : Holds val (List.take 1 _) := fun f hf => h f (List.mem_of_mem_take hf)
  have hc : Holds val (List.take 2 _) := fun f hf => h f (List.mem_of_mem_take hf)
  simp only [List.take_succ_cons, List.take_zero, List.drop_succ_cons, List.drop_zero, Holds, List.forall_mem_cons, List.not_mem_nil, false_implies, implies_true, and_true, Fact.holds, SB.eval, SX.eval, ylike0_0, ylike0_1, ylike0_2, ylike0_3, ylike0_4, ylike0_5, ylike0_6, ylike0_7, ylike0_8, ylike0_9, ylike0_10, ylike0_11, ylike0_12, ylike0_13, ylike0_14, ylike0_15, ylike0_16, ylike0_17, ylike0_18, ylike0_19, ylike0_20, ylike0_21, ylike0_22, ylike0_23, ylike0_24, ylike0_25, ylike0_26, ylike0_27, ylike0_28, wrapU, wrapI, fdivP, tmodP, beq_iff_eq, beq_eq_false_iff_ne, decide_eq_true_eq, decide_eq_false_iff_not, ne_eq] at h ha hb hc
  simp only [Int.reducePow] at h ha hb hc
  first | (clear h hc; omega) | (clear h; omega) | omega

theorem like0_26 (val : Nat → Int) (h : Holds val [.ne ylike0_7 0, .at ylike0_9 true, .ne (.a 0) 0, .is (.wrap .i64 ylike0_3) 0, .at ylike0_28 false, .at ylike0_27 false, .at ylike0_13 true, .at ylike0_14 true, .at ylike0_21 true, .is ylike0_2 0, .ge (.a 0) (-9223372036854775808), .le (.a 0) 9223372036854775807]) : LikeQ val := by
  exfalso
  have hb : Holds val (List.drop 9 _) := fun f hf => h f (List.mem_of_mem_drop hf)
  have ha : Holds val (List.take 1 _) := fun f hf => h f (List.mem_of_mem_take hf)
  have hc : Holds val (List.take 2 _) := fun f hf => h f (List.mem_of_mem_take hf)
  simp only [List.take_succ_cons, List.take_zero, List.drop_succ_cons, List.drop_zero, Holds, List.forall_mem_cons, List.not_mem_nil, false_implies, implies_true, and_true, Fact.holds, SB.eval, SX.eval, ylike0_0, ylike0_1, ylike0_2, ylike0_3, ylike0_4, ylike0_5, ylike0_6, ylike0_7, ylike0_8, ylike0_9, ylike0_10, ylike0_11, ylike0_12, ylike0_13, ylike0_14, ylike0_15, ylike0_16, ylike0_17, ylike0_18, ylike0_19, ylike0_20, ylike0_21, ylike0_22, ylike0_23, ylike0_24, ylike0_25, ylike0_26, ylike0_27, ylike0_28, wrapU, wrapI, fdivP, tmodP, beq_iff_eq, beq_eq_false_iff_ne, decide_eq_true_eq, decide_eq_false_iff_not, ne_eq] at h ha hb hc
  simp only [Int.reducePow] at h ha hb hc
  first | (clear h hc; omega) | (clear h; omega) | omega

theorem like0_27 (val : Nat → Int) (h : Holds val [.le (.a 0) (-129), .at ylike0_9 false, .ne (.a 0) 0, .is (.wrap .i64 ylike0_3) 0, .at ylike0_28 false, .at ylike0_27 false, .at ylike0_13 true, .at ylike0_14 true, .at ylike0_21 true, .is ylike0_2 0, .ge (.a 0) (-9223372036854775808), .le (.a 0) 9223372036854775807]) : LikeQ val :=
  leafK h (by kernel_rfl)

theorem like0_28 (val : Nat → Int) (h : Holds val [.ge (.a 0) 256, .ge (.a 0) (-128), .at ylike0_9 false, .ne (.a 0) 0, .is (.wrap .i64 ylike0_3) 0, .at ylike0_28 false, .at ylike0_27 false, .at ylike0_13 true, .at ylike0_14 true, .at ylike0_21 true, .is ylike0_2 0, .ge (.a 0) (-9223372036854775808), .le (.a 0) 9223372036854775807]) : LikeQ val :=
  leafK h (by kernel_rfl)

theorem like0_29 (val : Nat → Int) (h : Holds val [.le (.a 0) 255, .ge (.a 0) (-128), .at ylike0_9 false, .ne (.a 0) 0, .is (.wrap .i64 ylike0_3) 0, .at ylike0_28 false, .at ylike0_27 false, .at ylike0_13 true, .at ylike0_14 true, .at ylike0_21 true, .is ylike0_2 0, .ge (.a 0) (-9223372036854775808), .le (.a 0) 9223372036854775807]) : LikeQ val := by
  exfalso
  have hb : Holds val (List.drop 10 _) := fun f hf => h f (List.mem_of_mem_drop hf)
  have ha : Holds val (List.take 1 _) := fun f hf => h f (List.mem_of_mem_take hf)
  have hc : Holds val (List.take 2 _) := fun f hf => h f (List.mem_of_mem_take hf)
  simp only [List.take_succ_cons, List.take_zero, List.drop_succ_cons, List.drop_zero, Holds, List.forall_mem_cons, List.not_mem_nil, false_implies, implies_true, and_true, Fact.holds, SB.eval, SX.eval, ylike0_0, ylike0_1, ylike0_2, ylike0_3, ylike0_4, ylike0_5, ylike0_6, ylike0_7, ylike0_8, ylike0_9, ylike0_10, ylike0_11, ylike0_12, ylike0_13, ylike0_14, ylike0_15, ylike0_16, ylike0_17, ylike0_18, ylike0_19, ylike0_20, ylike0_21, ylike0_22, ylike0_23, ylike0_24, ylike0_25, ylike0_26, ylike0_27, ylike0_28, wrapU, wrapI, fdivP, tmodP, beq_iff_eq, beq_eq_false_iff_ne, decide_eq_true_eq, decide_eq_false_iff_not, ne_eq] at h ha hb hc
  simp only [Int.reducePow] at h ha hb hc
  first | (clear h hc; omega) | (clear h; omega) | omega

theorem like0_30 (val : Nat → Int) (h : Holds val [.ne (.wrap .i64 ylike0_3) 0, .at ylike0_28 false, .at ylike0_27 false, .at ylike0_13 true, .at ylike0_14 true, .at ylike0_21 true, .is ylike0_2 0, .ge (.a 0) (-9223372036854775808), .le (.a 0) 9223372036854775807]) : LikeQ val := by
  exfalso
  have hb : Holds val (List.drop 6 _) := fun f hf => h f (List.mem_of_mem_drop hf)
  have ha : Holds val (List.take 1 _) := fun f hf => h f (List.mem_of_mem_take hf)
  have hc : Holds val (List.take 2 _) := fun f hf => h f (List.mem_of_mem_take hf)
  simp only [List.take_succ_cons, List.take_zero, List.drop_succ_cons, List.drop_zero, Holds, List.forall_mem_cons, List.not_mem_nil, false_implies, implies_true, and_true, Fact.holds, SB.eval, SX.eval, ylike0_0, ylike0_1, ylike0_2, ylike0_3, ylike0_4, ylike0_5, ylike0_6, ylike0_7, ylike0_8, ylike0_9, ylike0_10, ylike0_11, ylike0_12, ylike0_13, ylike0_14, ylike0_15, ylike0_16, ylike0_17, ylike0_18, ylike0_19, ylike0_20, ylike0_21, ylike0_22, ylike0_23, ylike0_24, ylike0_25, ylike0_26, ylike0_27, ylike0_28, wrapU, wrapI, fdivP, tmodP, beq_iff_eq, beq_eq_false_iff_ne, decide_eq_true_eq, decide_eq_false_iff_not, ne_eq] at h ha hb hc
  simp only [Int.reducePow] at h ha hb hc
  first | (clear h hc; omega) | (clear h; omega) | omega

theorem like0_31 (val : Nat → Int) (h : Holds val [.at ylike0_13 false, .at ylike0_14 true, .at ylike0_21 true, .is ylike0_2 0, .ge (.a 0) (-9223372036854775808), .le (.a 0) 9223372036854775807]) : LikeQ val := by
  exfalso
  have hb : Holds val (List.drop 3 _) := fun f hf => h f (List.mem_of_mem_drop hf)
  have ha : Holds val (List.take 1 _) := fun f hf => h f (List.mem_of_mem_take hf)
  have hc : Holds val (List.take 2 _) := fun f hf => h f (List.mem_of_mem_take hf)
  simp only [List.take_succ_cons, List.take_zero, List.drop_succ_cons, List.drop_zero, Holds, List.forall_mem_cons, List.not_mem_nil, false_implies, implies_true, and_true, Fact.holds, SB.eval, SX.eval, ylike0_0, ylike0_1, ylike0_2, ylike0_3, ylike0_4, ylike0_5, ylike0_6, ylike0_7, ylike0_8, ylike0_9, ylike0_10, ylike0_11, ylike0_12, ylike0_13, ylike0_14, ylike0_15, ylike0_16, ylike0_17, ylike0_18, ylike0_19, ylike0_20, ylike0_21, ylike0_22, ylike0_23, ylike0_24, ylike0_25, ylike0_26, ylike0_27, ylike0_28, wrapU, wrapI, fdivP, tmodP, beq_iff_eq, beq_eq_false_iff_ne, decide_eq_true_eq, decide_eq_false_iff_not, ne_eq] at h ha hb hc
  simp only [Int.reducePow] at h ha hb hc
  first | (clear h hc; omega) | (clear h; omega) | omega

theorem like0_32 (val : Nat → Int) (h : Holds val [.is ylike0_24 0, .is ylike0_12 0, .le (.wrap .i64 ylike0_3) 255, .ge (.wrap .i64 ylike0_3) 0, .le (.shr ylike0_4 56) 127, .ge (.shr ylike0_4 56) (-128), .at ylike0_20 true, .at ylike0_25 true, .at ylike0_26 true, .at ylike0_27 true, .at ylike0_13 true, .at ylike0_15 true, .at ylike0_14 false, .at ylike0_21 true, .is ylike0_2 0, .ge (.a 0) (-9223372036854775808), .le (.a 0) 9223372036854775807]) : LikeQ val :=
  leafK h (by kernel_rfl)

theorem like0_33 (val : Nat → Int) (h : Holds val [.ne ylike0_24 0, .is ylike0_12 0, .le (.wrap .i64 ylike0_3) 255, .ge (.wrap .i64 ylike0_3) 0, .le (.shr ylike0_4 56) 127, .ge (.shr ylike0_4 56) (-128), .at ylike0_20 true, .at ylike0_25 true, .at ylike0_26 true, .at ylike0_27 true, .at ylike0_13 true, .at ylike0_15 true, .at ylike0_14 false, .at ylike0_21 true, .is ylike0_2 0, .ge (.a 0) (-9223372036854775808), .le (.a 0) 9223372036854775807]) : LikeQ val := by
  exfalso
  have hb : Holds val (List.drop 14 _) := fun f hf => h f (List.mem_of_mem_drop hf)
  have ha : Holds val (List.take 1 _) := fun f hf => h f (List.mem_of_mem_take hf)
  have hc : Holds val (List.take 2 _) := fun f hf => h f (List.mem_of_mem_take hf)
  simp only [List.take_succ_cons, List.take_zero, List.drop_succ_cons, List.drop_zero, Holds, List.forall_mem_cons, List.not_mem_nil, false_implies, implies_true, and_true, Fact.holds, SB.eval, SX.eval, ylike0_0, ylike0_1, ylike0_2, ylike0_3, ylike0_4, ylike0_5, ylike0_6, ylike0_7, ylike0_8, ylike0_9, ylike0_10, ylike0_11, ylike0_12, ylike0_13, ylike0_14, ylike0_15, ylike0_16, ylike0_17, ylike0_18, ylike0_19, ylike0_20, ylike0_21, ylike0_22, ylike0_23, ylike0_24, ylike0_25, ylike0_26, ylike0_27, ylike0_28, wrapU, wrapI, fdivP, tmodP, beq_iff_eq, beq_eq_false_iff_ne, decide_eq_true_eq, decide_eq_false_iff_not, ne_eq] at h ha hb hc
  simp only [Int.reducePow] at h ha hb hc
  first | (clear h hc; omega) | (clear h; omega) | omega

theorem like0_34 (val : Nat → Int) (h : Holds val [.ne ylike0_12 0, .le (.wrap .i64 ylike0_3) 255, .ge (.wrap .i64 ylike0_3) 0, .le (.shr ylike0_4 56) 127, .ge (.shr ylike0_4 56) (-128), .at ylike0_20 true, .at ylike0_25 true, .at ylike0_26 true, .at ylike0_27 true, .at ylike0_13 true, .at ylike0_15 true, .at ylike0_14 false, .at ylike0_21 true, .is ylike0_2 0, .ge (.a 0) (-9223372036854775808), .le (.a 0) 9223372036854775807]) : LikeQ val := by
  exfalso
  have hb : Holds val (List.drop 13 _) := fun f hf => h f (List.mem_of_mem_drop hf)
  have ha : Holds val (List.take 1 _) := fun f hf => h f (List.mem_of_mem_take hf)
  have hc : Holds val (List.take 2 _) := fun f hf => h f (List.mem_of_mem_take hf)
  simp only [List.take_succ_cons, List.take_zero, List.drop_succ_cons, List.drop_zero, Holds, List.forall_mem_cons, List.not_mem_nil, false_implies, implies_true, and_true, Fact.holds, SB.eval, SX.eval, ylike0_0, ylike0_1, ylike0_2, ylike0_3, ylike0_4, ylike0_5, ylike0_6, ylike0_7, ylike0_8, ylike0_9, ylike0_10, ylike0_11, ylike0_12, ylike0_13, ylike0_14, ylike0_15, ylike0_16, ylike0_17, ylike0_18, ylike0_19, ylike0_20, ylike0_21, ylike0_22, ylike0_23, ylike0_24, ylike0_25, ylike0_26, ylike0_27, ylike0_28, wrapU, wrapI, fdivP, tmodP, beq_iff_eq, beq_eq_false_iff_ne, decide_eq_true_eq, decide_eq_false_iff_not, ne_eq] at h ha hb hc
  simp only [Int.reducePow] at h ha hb hc
  first | (clear h hc; omega) | (clear h; omega) | omega

theorem like0_35 (val : Nat → Int) (h : Holds val [.ge (.wrap .i64 ylike0_3) 256, .ge (.wrap .i64 ylike0_3) 0, .le (.shr ylike0_4 56) 127, .ge (.shr ylike0_4 56) (-128), .at ylike0_20 true, .at ylike0_25 true, .at ylike0_26 true, .at ylike0_27 true, .at ylike0_13 true, .at ylike0_15 true, .at ylike0_14 false, .at ylike0_21 true, .is ylike0_2 0, .ge (.a 0) (-9223372036854775808), .le (.a 0) 9223372036854775807]) : LikeQ val := by
  exfalso
  have hb : Holds val (List.drop 12 _) := fun f hf => h f (List.mem_of_mem_drop hf)
  have ha : Holds val (List.take 1 _) := fun f hf => h f (List.mem_of_mem_take hf)
  have hc : Holds val (List.take 2 _) := fun f hf => h f (List.mem_of_mem_take hf)
  simp only [List.take_succ_cons, List.take_zero, List.drop_succ_cons, List.drop_zero, Holds, List.forall_mem_cons, List.not_mem_nil, false_implies, implies_true, and_true, Fact.holds, SB.eval, SX.eval, ylike0_0, ylike0_1, ylike0_2, ylike0_3, ylike0_4, ylike0_5, ylike0_6, ylike0_7, ylike0_8, ylike0_9, ylike0_10, ylike0_11, ylike0_12, ylike0_13, ylike0_14, ylike0_15, ylike0_16, ylike0_17, ylike0_18, ylike0_19, ylike0_20, ylike0_21, ylike0_22, ylike0_23, ylike0_24, ylike0_25, ylike0_26, ylike0_27, ylike0_28, wrapU, wrapI, fdivP, tmodP, beq_iff_eq, beq_eq_false_iff_ne, decide_eq_true_eq, decide_eq_false_iff_not, ne_eq] at h ha hb hc
  simp only [Int.reducePow] at h ha hb hc
  first | (clear h hc; omega) | (clear h; omega) | omega

theorem like0_36 (val : Nat → Int) (h : Holds val [.le (.wrap .i64 ylike0_3) (-1), .le (.shr ylike0_4 56) 127, .ge (.shr ylike0_4 56) (-128), .at ylike0_20 true, .at ylike0_25 true, .at ylike0_26 true, .at ylike0_27 true, .at ylike0_13 true, .at ylike0_15 true, .at ylike0_14 false, .at ylike0_21 true, .is ylike0_2 0, .ge (.a 0) (-9223372036854775808), .le (.a 0) 9223372036854775807]) : LikeQ val := by
  exfalso
  have hb : Holds val (List.drop 11 _) := fun f hf => h f (List.mem_of_mem_drop hf)
  have ha : Holds val (List.take 1 _) := fun f hf => h f (List.mem_of_mem_take hf)
  have hc : Holds val (List.take 2 _) := fun f hf => h f (List.mem_of_mem_take hf)
  simp only [List.take_succ_cons, List.take_zero, List.drop_succ_cons, List.drop_zero, Holds, List.forall_mem_cons, List.not_mem_nil, false_implies, implies_true, and_true, Fact.holds, SB.eval, SX.eval, ylike0_0, ylike0_1, ylike0_2, ylike0_3, ylike0_4, ylike0_5, ylike0_6, ylike0_7, ylike0_8, ylike0_9, ylike0_10, ylike0_11, ylike0_12, ylike0_13, ylike0_14, ylike0_15, ylike0_16, ylike0_17, ylike0_18, ylike0_19, ylike0_20, ylike0_21, ylike0_22, ylike0_23, ylike0_24, ylike0_25, ylike0_26, ylike0_27, ylike0_28, wrapU, wrapI, fdivP, tmodP, beq_iff_eq, beq_eq_false_iff_ne, decide_eq_true_eq, decide_eq_false_iff_not, ne_eq] at h ha hb hc
  simp only [Int.reducePow] at h ha hb hc
  first | (clear h hc; omega) | (clear h; omega) | omega

theorem like0_37 (val : Nat → Int) (h : Holds val [.ge (.shr ylike0_4 56) 128, .ge (.shr ylike0_4 56) (-128), .at ylike0_20 true, .at ylike0_25 true, .at ylike0_26 true, .at ylike0_27 true, .at ylike0_13 true, .at ylike0_15 true, .at ylike0_14 false, .at ylike0_21 true, .is ylike0_2 0, .ge (.a 0) (-9223372036854775808), .le (.a 0) 9223372036854775807]) : LikeQ val := by
  exfalso
  have hb : Holds val (List.drop 10 _) := fun f hf => h f (List.mem_of_mem_drop hf)
  have ha : Holds val (List.take 1 _) := fun f hf => h f (List.mem_of_mem_take hf)
  have hc : Holds val (List.take 2 _) := fun f hf => h f (List.mem_of_mem_take hf)
  simp only [List.take_succ_cons, List.take_zero, List.drop_succ_cons, List.drop_zero, Holds, List.forall_mem_cons, List.not_mem_nil, false_implies, implies_true, and_true, Fact.holds, SB.eval, SX.eval, ylike0_0, ylike0_1, ylike0_2, ylike0_3, ylike0_4, ylike0_5, ylike0_6, ylike0_7, ylike0_8, ylike0_9, ylike0_10, ylike0_11, ylike0_12, ylike0_13, ylike0_14, ylike0_15, ylike0_16, ylike0_17, ylike0_18, ylike0_19, ylike0_20, ylike0_21, ylike0_22, ylike0_23, ylike0_24, ylike0_25, ylike0_26, ylike0_27, ylike0_28, wrapU, wrapI, fdivP, tmodP, beq_iff_eq, beq_eq_false_iff_ne, decide_eq_true_eq, decide_eq_false_iff_not, ne_eq] at h ha hb hc
  simp only [Int.reducePow] at h ha hb hc
  first | (clear h hc; omega) | (clear h; omega) | omega

theorem like0_38 (val : Nat → Int) (h : Holds val [.le (.shr ylike0_4 56) (-129), .at ylike0_20 true, .at ylike0_25 true, .at ylike0_26 true, .at ylike0_27 true, .at ylike0_13 true, .at ylike0_15 true, .at ylike0_14 false, .at ylike0_21 true, .is ylike0_2 0, .ge (.a 0) (-9223372036854775808), .le (.a 0) 9223372036854775807]) : LikeQ val := by
  exfalso
  have hb : Holds val (List.drop 9 _) := fun f hf => h f (List.mem_of_mem_drop hf)
  have ha : Holds val (List.take 1 _) := fun f hf => h f (List.mem_of_mem_take hf)
  have hc : Holds val (List.take 2 _) := fun f hf => h f (List.mem_of_mem_take hf)
  simp only [List.take_succ_cons, List.take_zero, List.drop_succ_cons, List.drop_zero, Holds, List.forall_mem_cons, List.not_mem_nil, false_implies, implies_true, and_true, Fact.holds, SB.eval, SX.eval, ylike0_0, ylike0_1, ylike0_2, ylike0_3, ylike0_4, ylike0_5, ylike0_6, ylike0_7, ylike0_8, ylike0_9, ylike0_10, ylike0_11, ylike0_12, ylike0_13, ylike0_14, ylike0_15, ylike0_16, ylike0_17, ylike0_18, ylike0_19, ylike0_20, ylike0_21, ylike0_22, ylike0_23, ylike0_24, ylike0_25, ylike0_26, ylike0_27, ylike0_28, wrapU, wrapI, fdivP, tmodP, beq_iff_eq, beq_eq_false_iff_ne, decide_eq_true_eq, decide_eq_false_iff_not, ne_eq] at h ha hb hc
  simp only [Int.reducePow] at h ha hb hc
  first | (clear h hc; omega) | (clear h; omega) | omega

theorem like0_39 (val : Nat → Int) (h : Holds val [.at ylike0_20 false, .at ylike0_25 true, .at ylike0_26 true, .at ylike0_27 true, .at ylike0_13 true, .at ylike0_15 true, .at ylike0_14 false, .at ylike0_21 true, .is ylike0_2 0, .ge (.a 0) (-9223372036854775808), .le (.a 0) 9223372036854775807]) : LikeQ val := by
  exfalso
  have hb : Holds val (List.drop 8 _) := fun f hf => h f (List.mem_of_mem_drop hf)
  have ha : Holds val (List.take 1 _) := fun f hf => h f (List.mem_of_mem_take hf)
  have hc : Holds val (List.take 2 _) := fun f hf => h f (List.mem_of_mem_take hf)
  simp only [List.take_succ_cons, List.take_zero, List.drop_succ_cons, List.drop_zero, Holds, List.forall_mem_cons, List.not_mem_nil, false_implies, implies_true, and_true, Fact.holds, SB.eval, SX.eval, ylike0_0, ylike0_1, ylike0_2, ylike0_3, ylike0_4, ylike0_5, ylike0_6, ylike0_7, ylike0_8, ylike0_9, ylike0_10, ylike0_11, ylike0_12, ylike0_13, ylike0_14, ylike0_15, ylike0_16, ylike0_17, ylike0_18, ylike0_19, ylike0_20, ylike0_21, ylike0_22, ylike0_23, ylike0_24, ylike0_25, ylike0_26, ylike0_27, ylike0_28, wrapU, wrapI, fdivP, tmodP, beq_iff_eq, beq_eq_false_iff_ne, decide_eq_true_eq, decide_eq_false_iff_not, ne_eq] at h ha hb hc
  simp only [Int.reducePow] at h ha hb hc
  first | (clear h hc; omega) | (clear h; omega) | omega

theorem like0_40 (val : Nat → Int) (h : Holds val [.at ylike0_25 false, .at ylike0_26 true, .at ylike0_27 true, .at ylike0_13 true, .at ylike0_15 true, .at ylike0_14 false, .at ylike0_21 true, .is ylike0_2 0, .ge (.a 0) (-9223372036854775808), .le (.a 0) 9223372036854775807]) : LikeQ val := by
  exfalso
  have hb : Holds val (List.drop 7 _) := fun f hf => h f (List.mem_of_mem_drop hf)
  have ha : Holds val (List.take 1 _) := fun f hf => h f (List.mem_of_mem_take hf)
  have hc : Holds val (List.take 2 _) := fun f hf => h f (List.mem_of_mem_take hf)
  simp only [List.take_succ_cons, List.take_zero, List.drop_succ_cons, List.drop_zero, Holds, List.forall_mem_cons, List.not_mem_nil, false_implies, implies_true, and_true, Fact.holds, SB.eval, SX.eval, ylike0_0, ylike0_1, ylike0_2, ylike0_3, ylike0_4, ylike0_5, ylike0_6, ylike0_7, ylike0_8, ylike0_9, ylike0_10, ylike0_11, ylike0_12, ylike0_13, ylike0_14, ylike0_15, ylike0_16, ylike0_17, ylike0_18, ylike0_19, ylike0_20, ylike0_21, ylike0_22, ylike0_23, ylike0_24, ylike0_25, ylike0_26, ylike0_27, ylike0_28, wrapU, wrapI, fdivP, tmodP, beq_iff_eq, beq_eq_false_iff_ne, decide_eq_true_eq, decide_eq_false_iff_not, ne_eq] at h ha hb hc
  simp only [Int.reducePow] at h ha hb hc
  first | (clear h hc; omega) | (clear h; omega) | omega

theorem like0_41 (val : Nat → Int) (h : Holds val [.at ylike0_26 false, .at ylike0_27 true, .at ylike0_13 true, .at ylike0_15 true, .at ylike0_14 false, .at ylike0_21 true, .is ylike0_2 0, .ge (.a 0) (-9223372036854775808), .le (.a 0) 9223372036854775807]) : LikeQ val := by
  exfalso
  have hb : Holds val (List.drop 6 _) := fun f hf => h f (List.mem_of_mem_drop hf)
  have ha : Holds val (List.take 1 _) := fun f hf => h f (List.mem_of_mem_take hf)
  have hc : Holds val (List.take 2 _) := fun f hf => h f (List.mem_of_mem_take hf)
  simp only [List.take_succ_cons, List.take_zero, List.drop_succ_cons, List.drop_zero, Holds, List.forall_mem_cons, List.not_mem_nil, false_implies, implies_true, and_true, Fact.holds, SB.eval, SX.eval, ylike0_0, ylike0_1, ylike0_2, ylike0_3, ylike0_4, ylike0_5, ylike0_6, ylike0_7, ylike0_8, ylike0_9, ylike0_10, ylike0_11, ylike0_12, ylike0_13, ylike0_14, ylike0_15, ylike0_16, ylike0_17, ylike0_18, ylike0_19, ylike0_20, ylike0_21, ylike0_22, ylike0_23, ylike0_24, ylike0_25, ylike0_26, ylike0_27, ylike0_28, wrapU, wrapI, fdivP, tmodP, beq_iff_eq, beq_eq_false_iff_ne, decide_eq_true_eq, decide_eq_false_iff_not, ne_eq] at h ha hb hc
  simp only [Int.reducePow] at h ha hb hc
  first | (clear h hc; omega) | (clear h; omega) | omega

theorem like0_42 (val : Nat → Int) (h : Holds val [.is ylike0_24 0, .is ylike0_12 0, .le (.wrap .i64 ylike0_3) 255, .ge (.wrap .i64 ylike0_3) 0, .le (.shr ylike0_4 56) 127, .ge (.shr ylike0_4 56) (-128), .at ylike0_20 true, .at ylike0_25 true, .at ylike0_26 true, .at ylike0_28 true, .at ylike0_27 false, .at ylike0_13 true, .at ylike0_15 true, .at ylike0_14 false, .at ylike0_21 true, .is ylike0_2 0, .ge (.a 0) (-9223372036854775808), .le (.a 0) 9223372036854775807]) : LikeQ val :=
  leafK h (by kernel_rfl)

theorem like0_43 (val : Nat → Int) (h : Holds val [.ne ylike0_24 0, .is ylike0_12 0, .le (.wrap .i64 ylike0_3) 255, .ge (.wrap .i64 ylike0_3) 0, .le (.shr ylike0_4 56) 127, .ge (.shr ylike0_4 56) (-128), .at ylike0_20 true, .at ylike0_25 true, .at ylike0_26 true, .at ylike0_28 true, .at ylike0_27 false, .at ylike0_13 true, .at ylike0_15 true, .at ylike0_14 false, .at ylike0_21 true, .is ylike0_2 0, .ge (.a 0) (-9223372036854775808), .le (.a 0) 9223372036854775807]) : LikeQ val := by
  exfalso
  have hb : Holds val (List.drop 15 _) := fun f hf => h f (List.mem_of_mem_drop hf)
  have ha : Holds val (List.take 1 _) := fun f hf => h f (List.mem_of_mem_take hf)
  have hc : Holds val (List.take 2 _) := fun f hf => h f (List.mem_of_mem_take hf)
  simp only [List.take_succ_cons, List.take_zero, List.drop_succ_cons, List.drop_zero, Holds, List.forall_mem_cons, List.not_mem_nil, false_implies, implies_true, and_true, Fact.holds, SB.eval, SX.eval, ylike0_0, ylike0_1, ylike0_2, ylike0_3, ylike0_4, ylike0_5, ylike0_6, ylike0_7, ylike0_8, ylike0_9, ylike0_10, ylike0_11, ylike0_12, ylike0_13, ylike0_14, ylike0_15, ylike0_16, ylike0_17, ylike0_18, ylike0_19, ylike0_20, ylike0_21, ylike0_22, ylike0_23, ylike0_24, ylike0_25, ylike0_26, ylike0_27, ylike0_28, wrapU, wrapI, fdivP, tmodP, beq_iff_eq, beq_eq_false_iff_ne, decide_eq_true_eq, decide_eq_false_iff_not, ne_eq] at h ha hb hc
  simp only [Int.reducePow] at h ha hb hc
  first | (clear h hc; omega) | (clear h; omega) | omega

theorem like0_44 (val : Nat → Int) (h : Holds val [.ne ylike0_12 0, .le (.wrap .i64 ylike0_3) 255, .ge (.wrap .i64 ylike0_3) 0, .le (.shr ylike0_4 56) 127, .ge (.shr ylike0_4 56) (-128), .at ylike0_20 true, .at ylike0_25 true, .at ylike0_26 true, .at ylike0_28 true, .at ylike0_27 false, .at ylike0_13 true, .at ylike0_15 true, .at ylike0_14 false, .at ylike0_21 true, .is ylike0_2 0, .ge (.a 0) (-9223372036854775808), .le (.a 0) 9223372036854775807]) : LikeQ val := by
  exfalso
  have hb : Holds val (List.drop 14 _) := fun f hf => h f (List.mem_of_mem_drop hf)
  have ha : Holds val (List.take 1 _) := fun f hf => h f (List.mem_of_mem_take hf)
  have hc : Holds val (List.take 2 _) := fun f hf => h f (List.mem_of_mem_take hf)
  simp only [List.take_succ_cons, List.take_zero, List.drop_succ_cons, List.drop_zero, Holds, List.forall_mem_cons, List.not_mem_nil, false_implies, implies_true, and_true, Fact.holds, SB.eval, SX.eval, ylike0_0, ylike0_1, ylike0_2, ylike0_3, ylike0_4, ylike0_5, ylike0_6, ylike0_7, ylike0_8, ylike0_9, ylike0_10, ylike0_11, ylike0_12, ylike0_13, ylike0_14, ylike0_15, ylike0_16, ylike0_17, ylike0_18, ylike0_19, ylike0_20, ylike0_21, ylike0_22, ylike0_23, ylike0_24, ylike0_25, ylike0_26, ylike0_27, ylike0_28, wrapU, wrapI, fdivP, tmodP, beq_iff_eq, beq_eq_false_iff_ne, decide_eq_true_eq, decide_eq_false_iff_not, ne_eq] at h ha hb hc
  simp only [Int.reducePow] at h ha hb hc
  first | (clear h hc; omega) | (clear h; omega) | omega

theorem like0_45 (val : Nat → Int) (h : Holds val [.ge (.wrap .i64 ylike0_3) 256, .ge (.wrap .i64 ylike0_3) 0, .le (.shr ylike0_4 56) 127, .ge (.shr ylike0_4 56) (-128), .at ylike0_20 true, .at ylike0_25 true, .at ylike0_26 true, .at ylike0_28 true, .at ylike0_27 false, .at ylike0_13 true, .at ylike0_15 true, .at ylike0_14 false, .at ylike0_21 true, .is ylike0_2 0, .ge (.a 0) (-9223372036854775808), .le (.a 0) 9223372036854775807]) : LikeQ val := by
  exfalso
  have hb : Holds val (List.drop 13 _) := fun f hf => h f (List.mem_of_mem_drop hf)
  have ha : Holds val (List.take 1 _) := fun f hf => h f (List.mem_of_mem_take hf)
  have hc : Holds val (List.take 2 _) := fun f hf => h f (List.mem_of_mem_take hf)
  simp only [List.take_succ_cons, List.take_zero, List.drop_succ_cons, List.drop_zero, Holds, List.forall_mem_cons, List.not_mem_nil, false_implies, implies_true, and_true, Fact.holds, SB.eval, SX.eval, ylike0_0, ylike0_1, ylike0_2, ylike0_3, ylike0_4, ylike0_5, ylike0_6, ylike0_7, ylike0_8, ylike0_9, ylike0_10, ylike0_11, ylike0_12, ylike0_13, ylike0_14, ylike0_15, ylike0_16, ylike0_17, ylike0_18, ylike0_19, ylike0_20, ylike0_21, ylike0_22, ylike0_23, ylike0_24, ylike0_25, ylike0_26, ylike0_27, ylike0_28, wrapU, wrapI, fdivP, tmodP, beq_iff_eq, beq_eq_false_iff_ne, decide_eq_true_eq, decide_eq_false_iff_not, ne_eq] at h ha hb hc
  simp only [Int.reducePow] at h ha hb hc
  first | (clear h hc; omega) | (clear h; omega) | omega

theorem like0_46 (val : Nat → Int) (h : Holds val [.le (.wrap .i64 ylike0_3) (-1), .le (.shr ylike0_4 56) 127, .ge (.shr ylike0_4 56) (-128), .at ylike0_20 true, .at ylike0_25 true, .at ylike0_26 true, .at ylike0_28 true, .at ylike0_27 false, .at ylike0_13 true, .at ylike0_15 true, .at ylike0_14 false, .at ylike0_21 true, .is ylike0_2 0, .ge (.a 0) (-9223372036854775808), .le (.a 0) 9223372036854775807]) : LikeQ val := by
  exfalso
  have hb : Holds val (List.drop 12 _) := fun f hf => h f (List.mem_of_mem_drop hf)
  have ha : Holds val (List.take 1 _) := fun f hf => h f (List.mem_of_mem_take hf)
  have hc : Holds val (List.take 2 _) := fun f hf => h f (List.mem_of_mem_take hf)
  simp only [List.take_succ_cons, List.take_zero, List.drop_succ_cons, List.drop_zero, Holds, List.forall_mem_cons, List.not_mem_nil, false_implies, implies_true, and_true, Fact.holds, SB.eval, SX.eval, ylike0_0, ylike0_1, ylike0_2, ylike0_3, ylike0_4, ylike0_5, ylike0_6, ylike0_7, ylike0_8, ylike0_9, ylike0_10, ylike0_11, ylike0_12, ylike0_13, ylike0_14, ylike0_15, ylike0_16, ylike0_17, ylike0_18, ylike0_19, ylike0_20, ylike0_21, ylike0_22, ylike0_23, ylike0_24, ylike0_25, ylike0_26, ylike0_27, ylike0_28, wrapU, wrapI, fdivP, tmodP, beq_iff_eq, beq_eq_false_iff_ne, decide_eq_true_eq, decide_eq_false_iff_not, ne_eq] at h ha hb hc
  simp only [Int.reducePow] at h ha hb hc
  first | (clear h hc; omega) | (clear h; omega) | omega

theorem like0_47 (val : Nat → Int) (h : Holds val [.ge (.shr ylike0_4 56) 128, .ge (.shr ylike0_4 56) (-128), .at ylike0_20 true, .at ylike0_25 true, .at ylike0_26 true, .at ylike0_28 true, .at ylike0_27 false, .at ylike0_13 true, .at ylike0_15 true, .at ylike0_14 false, .at ylike0_21 true, .is ylike0_2 0, .ge (.a 0) (-9223372036854775808), .le (.a 0) 9223372036854775807]) : LikeQ val := by
  exfalso
  have hb : Holds val (List.drop 11 _) := fun f hf => h f (List.mem_of_mem_drop hf)
  have ha : Holds val (List.take 1 _) := fun f hf => h f (List.mem_of_mem_take hf)
  have hc : Holds val (List.take 2 _) := fun f hf => h f (List.mem_of_mem_take hf)
  simp only [List.take_succ_cons, List.take_zero, List.drop_succ_cons, List.drop_zero, Holds, List.forall_mem_cons, List.not_mem_nil, false_implies, implies_true, and_true, Fact.holds, SB.eval, SX.eval, ylike0_0, ylike0_1, ylike0_2, ylike0_3, ylike0_4, ylike0_5, ylike0_6, ylike0_7, ylike0_8, ylike0_9, ylike0_10, ylike0_11, ylike0_12, ylike0_13, ylike0_14, ylike0_15, ylike0_16, ylike0_17, ylike0_18, ylike0_19, ylike0_20, ylike0_21, ylike0_22, ylike0_23, ylike0_24, ylike0_25, ylike0_26, ylike0_27, ylike0_28, wrapU, wrapI, fdivP, tmodP, beq_iff_eq, beq_eq_false_iff_ne, decide_eq_true_eq, decide_eq_false_iff_not, ne_eq] at h ha hb hc
  simp only [Int.reducePow] at h ha hb hc
  first | (clear h hc; omega) | (clear h; omega) | omega

theorem like0_48 (val : Nat → Int) (h : Holds val [.le (.shr ylike0_4 56) (-129), .at ylike0_20 true, .at ylike0_25 true, .at ylike0_26 true, .at ylike0_28 true, .at ylike0_27 false, .at ylike0_13 true, .at ylike0_15 true, .at ylike0_14 false, .at ylike0_21 true, .is ylike0_2 0, .ge (.a 0) (-9223372036854775808), .le (.a 0) 9223372036854775807]) : LikeQ val := by
  exfalso
  have hb : Holds val (List.drop 10 _) := fun f hf => h f (List.mem_of_mem_drop hf)
  have ha : Holds val (List.take 1 _) := fun f hf => h f (List.mem_of_mem_take hf)
  have hc : Holds val (List.take 2 _) := fun f hf => h f (List.mem_of_mem_take hf)
  simp only [List.take_succ_cons, List.take_zero, List.drop_succ_cons, List.drop_zero, Holds, List.forall_mem_cons, List.not_mem_nil, false_implies, implies_true, and_true, Fact.holds, SB.eval, SX.eval, ylike0_0, ylike0_1, ylike0_2, ylike0_3, ylike0_4, ylike0_5, ylike0_6, ylike0_7, ylike0_8, ylike0_9, ylike0_10, ylike0_11, ylike0_12, ylike0_13, ylike0_14, ylike0_15, ylike0_16, ylike0_17, ylike0_18, ylike0_19, ylike0_20, ylike0_21, ylike0_22, ylike0_23, ylike0_24, ylike0_25, ylike0_26, ylike0_27, ylike0_28, wrapU, wrapI, fdivP, tmodP, beq_iff_eq, beq_eq_false_iff_ne, decide_eq_true_eq, decide_eq_false_iff_not, ne_eq] at h ha hb hc
  simp only [Int.reducePow] at h ha hb hc
  first | (clear h hc; omega) | (clear h; omega) | omega

theorem like0_49 (val : Nat → Int) (h : Holds val [.at ylike0_20 false, .at ylike0_25 true, .at ylike0_26 true, .at ylike0_28 true, .at ylike0_27 false, .at ylike0_13 true, .at ylike0_15 true, .at ylike0_14 false, .at ylike0_21 true, .is ylike0_2 0, .ge (.a 0) (-9223372036854775808), .le (.a 0) 9223372036854775807]) : LikeQ val := by
  exfalso
  have hb : Holds val (List.drop 9 _) := fun f hf => h f (List.mem_of_mem_drop hf)
  have ha : Holds val (List.take 1 _) := fun f hf => h f (List.mem_of_mem_take hf)
  have hc : Holds val (List.take 2 _) := fun f hf => h f (List.mem_of_mem_take hf)
  simp only [List.take_succ_cons, List.take_zero, List.drop_succ_cons, List.drop_zero, Holds, List.forall_mem_cons, List.not_mem_nil, false_implies, implies_true, and_true, Fact.holds, SB.eval, SX.eval, ylike0_0, ylike0_1, ylike0_2, ylike0_3, ylike0_4, ylike0_5, ylike0_6, ylike0_7, ylike0_8, ylike0_9, ylike0_10, ylike0_11, ylike0_12, ylike0_13, ylike0_14, ylike0_15, ylike0_16, ylike0_17, ylike0_18, ylike0_19, ylike0_20, ylike0_21, ylike0_22, ylike0_23, ylike0_24, ylike0_25, ylike0_26, ylike0_27, ylike0_28, wrapU, wrapI, fdivP, tmodP, beq_iff_eq, beq_eq_false_iff_ne, decide_eq_true_eq, decide_eq_false_iff_not, ne_eq] at h ha hb hc
  simp only [Int.reducePow] at h ha hb hc
  first | (clear h hc; omega) | (clear h; omega) | omega

theorem like0_50 (val : Nat → Int) (h : Holds val [.at ylike0_25 false, .at ylike0_26 true, .at ylike0_28 true, .at ylike0_27 false, .at ylike0_13 true, .at ylike0_15 true, .at ylike0_14 false, .at ylike0_21 true, .is ylike0_2 0, .ge (.a 0) (-9223372036854775808), .le (.a 0) 9223372036854775807]) : LikeQ val := by
  exfalso
  have hb : Holds val (List.drop 8 _) := fun f hf => h f (List.mem_of_mem_drop hf)
  have ha : Holds val (List.take 1 _) := fun f hf => h f (List.mem_of_mem_take hf)
  have hc : Holds val (List.take 2 _) := fun f hf => h f (List.mem_of_mem_take hf)
  simp only [List.take_succ_cons, List.take_zero, List.drop_succ_cons, List.drop_zero, Holds, List.forall_mem_cons, List.not_mem_nil, false_implies, implies_true, and_true, Fact.holds, SB.eval, SX.eval, ylike0_0, ylike0_1, ylike0_2, ylike0_3, ylike0_4, ylike0_5, ylike0_6, ylike0_7, ylike0_8, ylike0_9, ylike0_10, ylike0_11, ylike0_12, ylike0_13, ylike0_14, ylike0_15, ylike0_16, ylike0_17, ylike0_18, ylike0_19, ylike0_20, ylike0_21, ylike0_22, ylike0_23, ylike0_24, ylike0_25, ylike0_26, ylike0_27, ylike0_28, wrapU, wrapI, fdivP, tmodP, beq_iff_eq, beq_eq_false_iff_ne, decide_eq_true_eq, decide_eq_false_iff_not, ne_eq] at h ha hb hc
  simp only [Int.reducePow] at h ha hb hc
  first | (clear h hc; omega) | (clear h; omega) | omega

theorem like0_51 (val : Nat → Int) (h : Holds val [.at ylike0_26 false, .at ylike0_28 true, .at ylike0_27 false, .at ylike0_13 true, .at ylike0_15 true, .at ylike0_14 false, .at ylike0_21 true, .is ylike0_2 0, .ge (.a 0) (-9223372036854775808), .le (.a 0) 9223372036854775807]) : LikeQ val := by
  exfalso
  have hb : Holds val (List.drop 7 _) := fun f hf => h f (List.mem_of_mem_drop hf)
  have ha : Holds val (List.take 1 _) := fun f hf => h f (List.mem_of_mem_take hf)
  have hc : Holds val (List.take 2 _) := fun f hf => h f (List.mem_of_mem_take hf)
  simp only [List.take_succ_cons, List.take_zero, List.drop_succ_cons, List.drop_zero, Holds, List.forall_mem_cons, List.not_mem_nil, false_implies, implies_true, and_true, Fact.holds, SB.eval, SX.eval, ylike0_0, ylike0_1, ylike0_2, ylike0_3, ylike0_4, ylike0_5, ylike0_6, ylike0_7, ylike0_8, ylike0_9, ylike0_10, ylike0_11, ylike0_12, ylike0_13, ylike0_14, ylike0_15, ylike0_16, ylike0_17, ylike0_18, ylike0_19, ylike0_20, ylike0_21, ylike0_22, ylike0_23, ylike0_24, ylike0_25, ylike0_26, ylike0_27, ylike0_28, wrapU, wrapI, fdivP, tmodP, beq_iff_eq, beq_eq_false_iff_ne, decide_eq_true_eq, decide_eq_false_iff_not, ne_eq] at h ha hb hc
  simp only [Int.reducePow] at h ha hb hc
  first | (clear h hc; omega) | (clear h; omega) | omega

theorem like0_52 (val : Nat → Int) (h : Holds val [.is (.a 0) 0, .is (.wrap .i64 ylike0_3) 0, .at ylike0_28 false, .at ylike0_27 false, .at ylike0_13 true, .at ylike0_15 true, .at ylike0_14 false, .at ylike0_21 true, .is ylike0_2 0, .ge (.a 0) (-9223372036854775808), .le (.a 0) 9223372036854775807]) : LikeQ val :=
  leafK h (by kernel_rfl)

theorem like0_53 (val : Nat → Int) (h : Holds val [.le (.a 0) (-129), .is (.shr ylike0_4 56) 0, .is ylike0_7 0, .at ylike0_9 true, .ne (.a 0) 0, .is (.wrap .i64 ylike0_3) 0, .at ylike0_28 false, .at ylike0_27 false, .at ylike0_13 true, .at ylike0_15 true, .at ylike0_14 false, .at ylike0_21 true, .is ylike0_2 0, .ge (.a 0) (-9223372036854775808), .le (.a 0) 9223372036854775807]) : LikeQ val :=
  leafK h (by kernel_rfl)

theorem like0_54 (val : Nat → Int) (h : Holds val [.ge (.a 0) 256, .ge (.a 0) (-128), .is (.shr ylike0_4 56) 0, .is ylike0_7 0, .at ylike0_9 true, .ne (.a 0) 0, .is (.wrap .i64 ylike0_3) 0, .at ylike0_28 false, .at ylike0_27 false, .at ylike0_13 true, .at ylike0_15 true, .at ylike0_14 false, .at ylike0_21 true, .is ylike0_2 0, .ge (.a 0) (-9223372036854775808), .le (.a 0) 9223372036854775807]) : LikeQ val :=
  leafK h (by kernel_rfl)

theorem like0_55 (val : Nat → Int) (h : Holds val [.le (.a 0) 255, .ge (.a 0) (-128), .is (.shr ylike0_4 56) 0, .is ylike0_7 0, .at ylike0_9 true, .ne (.a 0) 0, .is (.wrap .i64 ylike0_3) 0, .at ylike0_28 false, .at ylike0_27 false, .at ylike0_13 true, .at ylike0_15 true, .at ylike0_14 false, .at ylike0_21 true, .is ylike0_2 0, .ge (.a 0) (-9223372036854775808), .le (.a 0) 9223372036854775807]) : LikeQ val := by
  exfalso
  have hb : Holds val (List.drop 13 _) := fun f hf => h f (List.mem_of_mem_drop hf)
  have ha : Holds val (List.take 1 _) := fun f hf => h f (List.mem_of_mem_take hf)
  have hc : Holds val (List.take 2 _) := fun f hf => h f (List.mem_of_mem_take hf)
  simp only [List.take_succ_cons, List.take_zero, List.drop_succ_cons, List.drop_zero, Holds, List.forall_mem_cons, List.not_mem_nil, false_implies, implies_true, and_true, Fact.holds, SB.eval, SX.eval, ylike0_0, ylike0_1, ylike0_2, ylike0_3, ylike0_4, ylike0_5, ylike0_6, ylike0_7, ylike0_8, ylike0_9, ylike0_10, ylike0_11, ylike0_12, ylike0_13, ylike0_14, ylike0_15, ylike0_16, ylike0_17, ylike0_18, ylike0_19, ylike0_20, ylike0_21, ylike0_22, ylike0_23, ylike0_24, ylike0_25, ylike0_26, ylike0_27, ylike0_28, wrapU, wrapI, fdivP, tmodP, beq_iff_eq, beq_eq_false_iff_ne, decide_eq_true_eq, decide_eq_false_iff_not, ne_eq] at h ha hb hc
  simp only [Int.reducePow] at h ha hb hc
  first | (clear h hc; omega) | (clear h; omega) | omega

theorem like0_56 (val : Nat → Int) (h : Holds val [.ne (.shr ylike0_4 56) 0, .is ylike0_7 0, .at ylike0_9 true, .ne (.a 0) 0, .is (.wrap .i64 ylike0_3) 0, .at ylike0_28 false, .at ylike0_27 false, .at ylike0_13 true, .at ylike0_15 true, .at ylike0_14 false, .at ylike0_21 true, .is ylike0_2 0, .ge (.a 0) (-9223372036854775808), .le (.a 0) 9223372036854775807]) : LikeQ val := by
  exfalso
  have hb : Holds val (List.drop 11 _) := fun f hf => h f (List.mem_of_mem_drop hf)
  have ha : Holds val (List.take 1 _) := fun f hf => h f (List.mem_of_mem_take hf)
  have hc : Holds val (List.take 2 _) := fun f hf => h f (List.mem_of_mem_take hf)
  simp only [List.take_succ_cons, List.take_zero, List.drop_succ_cons, List.drop_zero, Holds, List.forall_mem_cons, List.not_mem_nil, false_implies, implies_true, and_true, Fact.holds, SB.eval, SX.eval, ylike0_0, ylike0_1, ylike0_2, ylike0_3, ylike0_4, ylike0_5, ylike0_6, ylike0_7, ylike0_8, ylike0_9, ylike0_10, ylike0_11, ylike0_12, ylike0_13, ylike0_14, ylike0_15, ylike0_16, ylike0_17, ylike0_18, ylike0_19, ylike0_20, ylike0_21, ylike0_22, ylike0_23, ylike0_24, ylike0_25, ylike0_26, ylike0_27, ylike0_28, wrapU, wrapI, fdivP, tmodP, beq_iff_eq, beq_eq_false_iff_ne, decide_eq_true_eq, decide_eq_false_iff_not, ne_eq] at h ha hb hc
  simp only [Int.reducePow] at h ha hb hc
  first | (clear h hc; omega) | (clear h; omega) | omega

theorem like0_57 (val : Nat → Int) (h : Holds val [.ne ylike0_7 0, .at ylike0_9 true, .ne (.a 0) 0, .is (.wrap .i64 ylike0_3) 0, .at ylike0_28 false, .at ylike0_27 false, .at ylike0_13 true, .at ylike0_15 true, .at ylike0_14 false, .at ylike0_21 true, .is ylike0_2 0, .ge (.a 0) (-9223372036854775808), .le (.a 0) 9223372036854775807]) : LikeQ val := by
  exfalso
  have hb : Holds val (List.drop 10 _) := fun f hf => h f (List.mem_of_mem_drop hf)
  have ha : Holds val (List.take 1 _) := fun f hf => h f (List.mem_of_mem_take hf)
  have hc : Holds val (List.take 2 _) := fun f hf => h f (List.mem_of_mem_take hf)
  simp only [List.take_succ_cons, List.take_zero, List.drop_succ_cons, List.drop_zero, Holds, List.forall_mem_cons, List.not_mem_nil, false_implies, implies_true, and_true, Fact.holds, SB.eval, SX.eval, ylike0_0, ylike0_1, ylike0_2, ylike0_3, ylike0_4, ylike0_5, ylike0_6, ylike0_7, ylike0_8, ylike0_9, ylike0_10, ylike0_11, ylike0_12, ylike0_13, ylike0_14, ylike0_15, ylike0_16, ylike0_17, ylike0_18, ylike0_19, ylike0_20, ylike0_21, ylike0_22, ylike0_23, ylike0_24, ylike0_25, ylike0_26, ylike0_27, ylike0_28, wrapU, wrapI, fdivP, tmodP, beq_iff_eq, beq_eq_false_iff_ne, decide_eq_true_eq, decide_eq_false_iff_not, ne_eq] at h ha hb hc
  simp only [Int.reducePow] at h ha hb hc
  first | (clear h hc; omega) | (clear h; omega) | omega

theorem like0_58 (val : Nat → Int) (h : Holds val [.le (.a 0) (-129), .at ylike0_9 false, .ne (.a 0) 0, .is (.wrap .i64 ylike0_3) 0, .at ylike0_28 false, .at ylike0_27 false, .at ylike0_13 true, .at ylike0_15 true, .at ylike0_14 false, .at ylike0_21 true, .is ylike0_2 0, .ge (.a 0) (-9223372036854775808), .le (.a 0) 9223372036854775807]) : LikeQ val :=
  leafK h (by kernel_rfl)

theorem like0_59 (val : Nat → Int) (h : Holds val [.ge (.a 0) 256, .ge (.a 0) (-128), .at ylike0_9 false, .ne (.a 0) 0, .is (.wrap .i64 ylike0_3) 0, .at ylike0_28 false, .at ylike0_27 false, .at ylike0_13 true, .at ylike0_15 true, .at ylike0_14 false, .at ylike0_21 true, .is ylike0_2 0, .ge (.a 0) (-9223372036854775808), .le (.a 0) 9223372036854775807]) : LikeQ val :=
  leafK h (by kernel_rfl)

theorem like0_60 (val : Nat → Int) (h : Holds val [.le (.a 0) 255, .ge (.a 0) (-128), .at ylike0_9 false, .ne (.a 0) 0, .is (.wrap .i64 ylike0_3) 0, .at ylike0_28 false, .at ylike0_27 false, .at ylike0_13 true, .at ylike0_15 true, .at ylike0_14 false, .at ylike0_21 true, .is ylike0_2 0, .ge (.a 0) (-9223372036854775808), .le (.a 0) 9223372036854775807]) : LikeQ val := by
  exfalso
  have hb : Holds val (List.drop 11 _) := fun f hf => h f (List.mem_of_mem_drop hf)
  have ha : Holds val (List.take 1 _) := fun f hf => h f (List.mem_of_mem_take hf)
  have hc : Holds val (List.take 2 _) := fun f hf => h f (List.mem_of_mem_take hf)
  simp only [List.take_succ_cons, List.take_zero, List.drop_succ_cons, List.drop_zero, Holds, List.forall_mem_cons, List.not_mem_nil, false_implies, implies_true, and_true, Fact.holds, SB.eval, SX.eval, ylike0_0, ylike0_1, ylike0_2, ylike0_3, ylike0_4, ylike0_5, ylike0_6, ylike0_7, ylike0_8, ylike0_9, ylike0_10, ylike0_11, ylike0_12, ylike0_13, ylike0_14, ylike0_15, ylike0_16, ylike0_17, ylike0_18, ylike0_19, ylike0_20, ylike0_21, ylike0_22, ylike0_23, ylike0_24, ylike0_25, ylike0_26, ylike0_27, ylike0_28, wrapU, wrapI, fdivP, tmodP, beq_iff_eq, beq_eq_false_iff_ne, decide_eq_true_eq, decide_eq_false_iff_not, ne_eq] at h ha hb hc
  simp only [Int.reducePow] at h ha hb hc
  first | (clear h hc; omega) | (clear h; omega) | omega

theorem like0_61 (val : Nat → Int) (h : Holds val [.ne (.wrap .i64 ylike0_3) 0, .at ylike0_28 false, .at ylike0_27 false, .at ylike0_13 true, .at ylike0_15 true, .at ylike0_14 false, .at ylike0_21 true, .is ylike0_2 0, .ge (.a 0) (-9223372036854775808), .le (.a 0) 9223372036854775807]) : LikeQ val := by
  exfalso
  have hb : Holds val (List.drop 7 _) := fun f hf => h f (List.mem_of_mem_drop hf)
  have ha : Holds val (List.take 1 _) := fun f hf => h f (List.mem_of_mem_take hf)
  have hc : Holds val (List.take 2 _) := fun f hf => h f (List.mem_of_mem_take hf)
  simp only [List.take_succ_cons, List.take_zero, List.drop_succ_cons, List.drop_zero, Holds, List.forall_mem_cons, List.not_mem_nil, false_implies, implies_true, and_true, Fact.holds, SB.eval, SX.eval, ylike0_0, ylike0_1, ylike0_2, ylike0_3, ylike0_4, ylike0_5, ylike0_6, ylike0_7, ylike0_8, ylike0_9, ylike0_10, ylike0_11, ylike0_12, ylike0_13, ylike0_14, ylike0_15, ylike0_16, ylike0_17, ylike0_18, ylike0_19, ylike0_20, ylike0_21, ylike0_22, ylike0_23, ylike0_24, ylike0_25, ylike0_26, ylike0_27, ylike0_28, wrapU, wrapI, fdivP, tmodP, beq_iff_eq, beq_eq_false_iff_ne, decide_eq_true_eq, decide_eq_false_iff_not, ne_eq] at h ha hb hc
  simp only [Int.reducePow] at h ha hb hc
  first | (clear h hc; omega) | (clear h; omega) | omega

theorem like0_62 (val : Nat → Int) (h : Holds val [.at ylike0_13 false, .at ylike0_15 true, .at ylike0_14 false, .at ylike0_21 true, .is ylike0_2 0, .ge (.a 0) (-9223372036854775808), .le (.a 0) 9223372036854775807]) : LikeQ val := by
  exfalso
  have hb : Holds val (List.drop 4 _) := fun f hf => h f (List.mem_of_mem_drop hf)
  have ha : Holds val (List.take 1 _) := fun f hf => h f (List.mem_of_mem_take hf)
  have hc : Holds val (List.take 2 _) := fun f hf => h f (List.mem_of_mem_take hf)
  simp only [List.take_succ_cons, List.take_zero, List.drop_succ_cons, List.drop_zero, Holds, List.forall_mem_cons, List.not_mem_nil, false_implies, implies_true, and_true, Fact.holds, SB.eval, SX.eval, ylike0_0, ylike0_1, ylike0_2, ylike0_3, ylike0_4, ylike0_5, ylike0_6, ylike0_7, ylike0_8, ylike0_9, ylike0_10, ylike0_11, ylike0_12, ylike0_13, ylike0_14, ylike0_15, ylike0_16, ylike0_17, ylike0_18, ylike0_19, ylike0_20, ylike0_21, ylike0_22, ylike0_23, ylike0_24, ylike0_25, ylike0_26, ylike0_27, ylike0_28, wrapU, wrapI, fdivP, tmodP, beq_iff_eq, beq_eq_false_iff_ne, decide_eq_true_eq, decide_eq_false_iff_not, ne_eq] at h ha hb hc
  simp only [Int.reducePow] at h ha hb hc
  first | (clear h hc; omega) | (clear h; omega) | omega

theorem like0_63 (val : Nat → Int) (h : Holds val [.is (.a 0) 0, .is (.wrap .i64 ylike0_3) 0, .at ylike0_26 true, .at ylike0_27 true, .is (.shr ylike0_4 56) 0, .at ylike0_15 false, .at ylike0_14 false, .at ylike0_21 true, .is ylike0_2 0, .ge (.a 0) (-9223372036854775808), .le (.a 0) 9223372036854775807]) : LikeQ val :=
  leafK h (by kernel_rfl)

theorem like0_64 (val : Nat → Int) (h : Holds val [.le (.a 0) (-129), .ne (.a 0) 0, .is (.wrap .i64 ylike0_3) 0, .at ylike0_26 true, .at ylike0_27 true, .is (.shr ylike0_4 56) 0, .at ylike0_15 false, .at ylike0_14 false, .at ylike0_21 true, .is ylike0_2 0, .ge (.a 0) (-9223372036854775808), .le (.a 0) 9223372036854775807]) : LikeQ val :=
  leafK h (by kernel_rfl)

theorem like0_65 (val : Nat → Int) (h : Holds val [.ge (.a 0) 256, .ge (.a 0) (-128), .ne (.a 0) 0, .is (.wrap .i64 ylike0_3) 0, .at ylike0_26 true, .at ylike0_27 true, .is (.shr ylike0_4 56) 0, .at ylike0_15 false, .at ylike0_14 false, .at ylike0_21 true, .is ylike0_2 0, .ge (.a 0) (-9223372036854775808), .le (.a 0) 9223372036854775807]) : LikeQ val :=
  leafK h (by kernel_rfl)

theorem like0_66 (val : Nat → Int) (h : Holds val [.le (.a 0) 255, .ge (.a 0) (-128), .ne (.a 0) 0, .is (.wrap .i64 ylike0_3) 0, .at ylike0_26 true, .at ylike0_27 true, .is (.shr ylike0_4 56) 0, .at ylike0_15 false, .at ylike0_14 false, .at ylike0_21 true, .is ylike0_2 0, .ge (.a 0) (-9223372036854775808), .le (.a 0) 9223372036854775807]) : LikeQ val := by
  exfalso
  have hb : Holds val (List.drop 10 _) := fun f hf => h f (List.mem_of_mem_drop hf)
  have ha : Holds val (List.take 1 _) := fun f hf => h f (List.mem_of_mem_take hf)
  have hc : Holds val (List.take 2 _) := fun f hf => h f (List.mem_of_mem_take hf)
  simp only [List.take_succ_cons, List.take_zero, List.drop_succ_cons, List.drop_zero, Holds, List.forall_mem_cons, List.not_mem_nil, false_implies, implies_true, and_true, Fact.holds, SB.eval, SX.eval, ylike0_0, ylike0_1, ylike0_2, ylike0_3, ylike0_4, ylike0_5, ylike0_6, ylike0_7, ylike0_8, ylike0_9, ylike0_10, ylike0_11, ylike0_12, ylike0_13, ylike0_14, ylike0_15, ylike0_16, ylike0_17, ylike0_18, ylike0_19, ylike0_20, ylike0_21, ylike0_22, ylike0_23, ylike0_24, ylike0_25, ylike0_26, ylike0_27, ylike0_28, wrapU, wrapI, fdivP, tmodP, beq_iff_eq, beq_eq_false_iff_ne, decide_eq_true_eq, decide_eq_false_iff_not, ne_eq] at h ha hb hc
  simp only [Int.reducePow] at h ha hb hc
  first | (clear h hc; omega) | (clear h; omega) | omega

theorem like0_67 (val : Nat → Int) (h : Holds val [.ne (.wrap .i64 ylike0_3) 0, .at ylike0_26 true, .at ylike0_27 true, .is (.shr ylike0_4 56) 0, .at ylike0_15 false, .at ylike0_14 false, .at ylike0_21 true, .is ylike0_2 0, .ge (.a 0) (-9223372036854775808), .le (.a 0) 9223372036854775807]) : LikeQ val := by
  exfalso
  have hb : Holds val (List.drop 7 _) := fun f hf => h f (List.mem_of_mem_drop hf)
  have ha : Holds val (List.take 1 _) := fun f hf => h f (List.mem_of_mem_take hf)
  have hc : Holds val (List.take 2 _) := fun f hf => h f (List.mem_of_mem_take hf)
  simp only [List.take_succ_cons, List.take_zero, List.drop_succ_cons, List.drop_zero, Holds, List.forall_mem_cons, List.not_mem_nil, false_implies, implies_true, and_true, Fact.holds, SB.eval, SX.eval, ylike0_0, ylike0_1, ylike0_2, ylike0_3, ylike0_4, ylike0_5, ylike0_6, ylike0_7, ylike0_8, ylike0_9, ylike0_10, ylike0_11, ylike0_12, ylike0_13, ylike0_14, ylike0_15, ylike0_16, ylike0_17, ylike0_18, ylike0_19, ylike0_20, ylike0_21, ylike0_22, ylike0_23, ylike0_24, ylike0_25, ylike0_26, ylike0_27, ylike0_28, wrapU, wrapI, fdivP, tmodP, beq_iff_eq, beq_eq_false_iff_ne, decide_eq_true_eq, decide_eq_false_iff_not, ne_eq] at h ha hb hc
  simp only [Int.reducePow] at h ha hb hc
  first | (clear h hc; omega) | (clear h; omega) | omega

theorem like0_68 (val : Nat → Int) (h : Holds val [.at ylike0_26 false, .at ylike0_27 true, .is (.shr ylike0_4 56) 0, .at ylike0_15 false, .at ylike0_14 false, .at ylike0_21 true, .is ylike0_2 0, .ge (.a 0) (-9223372036854775808), .le (.a 0) 9223372036854775807]) : LikeQ val := by
  exfalso
  have hb : Holds val (List.drop 6 _) := fun f hf => h f (List.mem_of_mem_drop hf)
  have ha : Holds val (List.take 1 _) := fun f hf => h f (List.mem_of_mem_take hf)
  have hc : Holds val (List.take 2 _) := fun f hf => h f (List.mem_of_mem_take hf)
  simp only [List.take_succ_cons, List.take_zero, List.drop_succ_cons, List.drop_zero, Holds, List.forall_mem_cons, List.not_mem_nil, false_implies, implies_true, and_true, Fact.holds, SB.eval, SX.eval, ylike0_0, ylike0_1, ylike0_2, ylike0_3, ylike0_4, ylike0_5, ylike0_6, ylike0_7, ylike0_8, ylike0_9, ylike0_10, ylike0_11, ylike0_12, ylike0_13, ylike0_14, ylike0_15, ylike0_16, ylike0_17, ylike0_18, ylike0_19, ylike0_20, ylike0_21, ylike0_22, ylike0_23, ylike0_24, ylike0_25, ylike0_26, ylike0_27, ylike0_28, wrapU, wrapI, fdivP, tmodP, beq_iff_eq, beq_eq_false_iff_ne, decide_eq_true_eq, decide_eq_false_iff_not, ne_eq] at h ha hb hc
  simp only [Int.reducePow] at h ha hb hc
  first | (clear h hc; omega) | (clear h; omega) | omega

theorem like0_69 (val : Nat → Int) (h : Holds val [.is (.a 0) 0, .is (.wrap .i64 ylike0_3) 0, .at ylike0_26 true, .at ylike0_28 true, .at ylike0_27 false, .is (.shr ylike0_4 56) 0, .at ylike0_15 false, .at ylike0_14 false, .at ylike0_21 true, .is ylike0_2 0, .ge (.a 0) (-9223372036854775808), .le (.a 0) 9223372036854775807]) : LikeQ val :=
  leafK h (by kernel_rfl)

theorem like0_70 (val : Nat → Int) (h : Holds val [.le (.a 0) (-129), .ne (.a 0) 0, .is (.wrap .i64 ylike0_3) 0, .at ylike0_26 true, .at ylike0_28 true, .at ylike0_27 false, .is (.shr ylike0_4 56) 0, .at ylike0_15 false, .at ylike0_14 false, .at ylike0_21 true, .is ylike0_2 0, .ge (.a 0) (-9223372036854775808), .le (.a 0) 9223372036854775807]) : LikeQ val :=
  leafK h (by kernel_rfl)

theorem like0_71 (val : Nat → Int) (h : Holds val [.ge (.a 0) 256, .ge (.a 0) (-128), .ne (.a 0) 0, .is (.wrap .i64 ylike0_3) 0, .at ylike0_26 true, .at ylike0_28 true, .at ylike0_27 false, .is (.shr ylike0_4 56) 0, .at ylike0_15 false, .at ylike0_14 false, .at ylike0_21 true, .is ylike0_2 0, .ge (.a 0) (-9223372036854775808), .le (.a 0) 9223372036854775807]) : LikeQ val :=
  leafK h (by kernel_rfl)

theorem like0_72 (val : Nat → Int) (h : Holds val [.le (.a 0) 255, .ge (.a 0) (-128), .ne (.a 0) 0, .is (.wrap .i64 ylike0_3) 0, .at ylike0_26 true, .at ylike0_28 true, .at ylike0_27 false, .is (.shr ylike0_4 56) 0, .at ylike0_15 false, .at ylike0_14 false, .at ylike0_21 true, .is ylike0_2 0, .ge (.a 0) (-9223372036854775808), .le (.a 0) 9223372036854775807]) : LikeQ val := by
  exfalso
  have hb : Holds val (List.drop 11 _) := fun f hf => h f (List.mem_of_mem_drop hf)
  have ha : Holds val (List.take 1 _) := fun f hf => h f (List.mem_of_mem_take hf)
  have hc : Holds val (List.take 2 _) := fun f hf => h f (List.mem_of_mem_take hf)
  simp only [List.take_succ_cons, List.take_zero, List.drop_succ_cons, List.drop_zero, Holds, List.forall_mem_cons, List.not_mem_nil, false_implies, implies_true, and_true, Fact.holds, SB.eval, SX.eval, ylike0_0, ylike0_1, ylike0_2, ylike0_3, ylike0_4, ylike0_5, ylike0_6, ylike0_7, ylike0_8, ylike0_9, ylike0_10, ylike0_11, ylike0_12, ylike0_13, ylike0_14, ylike0_15, ylike0_16, ylike0_17, ylike0_18, ylike0_19, ylike0_20, ylike0_21, ylike0_22, ylike0_23, ylike0_24, ylike0_25, ylike0_26, ylike0_27, ylike0_28, wrapU, wrapI, fdivP, tmodP, beq_iff_eq, beq_eq_false_iff_ne, decide_eq_true_eq, decide_eq_false_iff_not, ne_eq] at h ha hb hc
  simp only [Int.reducePow] at h ha hb hc
  first | (clear h hc; omega) | (clear h; omega) | omega

theorem like0_73 (val : Nat → Int) (h : Holds val [.ne (.wrap .i64 ylike0_3) 0, .at ylike0_26 true, .at ylike0_28 true, .at ylike0_27 false, .is (.shr ylike0_4 56) 0, .at ylike0_15 false, .at ylike0_14 false, .at ylike0_21 true, .is ylike0_2 0, .ge (.a 0) (-9223372036854775808), .le (.a 0) 9223372036854775807]) : LikeQ val := by
  exfalso
  have hb : Holds val (List.drop 8 _) := fun f hf => h f (List.mem_of_mem_drop hf)
  have ha : Holds val (List.take 1 _) := fun f hf => h f (List.mem_of_mem_take hf)
  have hc : Holds val (List.take 2 _) := fun f hf => h f (List.mem_of_mem_take hf)
  simp only [List.take_succ_cons, List.take_zero, List.drop_succ_cons, List.drop_zero, Holds, List.forall_mem_cons, List.not_mem_nil, false_implies, implies_true, and_true, Fact.holds, SB.eval, SX.eval, ylike0_0, ylike0_1, ylike0_2, ylike0_3, ylike0_4, ylike0_5, ylike0_6, ylike0_7, ylike0_8, ylike0_9, ylike0_10, ylike0_11, ylike0_12, ylike0_13, ylike0_14, ylike0_15, ylike0_16, ylike0_17, ylike0_18, ylike0_19, ylike0_20, ylike0_21, ylike0_22, ylike0_23, ylike0_24, ylike0_25, ylike0_26, ylike0_27, ylike0_28, wrapU, wrapI, fdivP, tmodP, beq_iff_eq, beq_eq_false_iff_ne, decide_eq_true_eq, decide_eq_false_iff_not, ne_eq] at h ha hb hc
  simp only [Int.reducePow] at h ha hb hc
  first | (clear h hc; omega) | (clear h; omega) | omega

theorem like0_74 (val : Nat → Int) (h : Holds val [.at ylike0_26 false, .at ylike0_28 true, .at ylike0_27 false, .is (.shr ylike0_4 56) 0, .at ylike0_15 false, .at ylike0_14 false, .at ylike0_21 true, .is ylike0_2 0, .ge (.a 0) (-9223372036854775808), .le (.a 0) 9223372036854775807]) : LikeQ val := by
  exfalso
  have hb : Holds val (List.drop 7 _) := fun f hf => h f (List.mem_of_mem_drop hf)
  have ha : Holds val (List.take 1 _) := fun f hf => h f (List.mem_of_mem_take hf)
  have hc : Holds val (List.take 2 _) := fun f hf => h f (List.mem_of_mem_take hf)
  simp only [List.take_succ_cons, List.take_zero, List.drop_succ_cons, List.drop_zero, Holds, List.forall_mem_cons, List.not_mem_nil, false_implies, implies_true, and_true, Fact.holds, SB.eval, SX.eval, ylike0_0, ylike0_1, ylike0_2, ylike0_3, ylike0_4, ylike0_5, ylike0_6, ylike0_7, ylike0_8, ylike0_9, ylike0_10, ylike0_11, ylike0_12, ylike0_13, ylike0_14, ylike0_15, ylike0_16, ylike0_17, ylike0_18, ylike0_19, ylike0_20, ylike0_21, ylike0_22, ylike0_23, ylike0_24, ylike0_25, ylike0_26, ylike0_27, ylike0_28, wrapU, wrapI, fdivP, tmodP, beq_iff_eq, beq_eq_false_iff_ne, decide_eq_true_eq, decide_eq_false_iff_not, ne_eq] at h ha hb hc
  simp only [Int.reducePow] at h ha hb hc
  first | (clear h hc; omega) | (clear h; omega) | omega

theorem like0_75 (val : Nat → Int) (h : Holds val [.is (.a 0) 0, .is (.wrap .i64 ylike0_3) 0, .at ylike0_28 false, .at ylike0_27 false, .is (.shr ylike0_4 56) 0, .at ylike0_15 false, .at ylike0_14 false, .at ylike0_21 true, .is ylike0_2 0, .ge (.a 0) (-9223372036854775808), .le (.a 0) 9223372036854775807]) : LikeQ val :=
  leafK h (by kernel_rfl)

theorem like0_76 (val : Nat → Int) (h : Holds val [.le (.a 0) (-129), .ne (.a 0) 0, .is (.wrap .i64 ylike0_3) 0, .at ylike0_28 false, .at ylike0_27 false, .is (.shr ylike0_4 56) 0, .at ylike0_15 false, .at ylike0_14 false, .at ylike0_21 true, .is ylike0_2 0, .ge (.a 0) (-9223372036854775808), .le (.a 0) 9223372036854775807]) : LikeQ val :=
  leafK h (by kernel_rfl)

theorem like0_77 (val : Nat → Int) (h : Holds val [.ge (.a 0) 256, .ge (.a 0) (-128), .ne (.a 0) 0, .is (.wrap .i64 ylike0_3) 0, .at ylike0_28 false, .at ylike0_27 false, .is (.shr ylike0_4 56) 0, .at ylike0_15 false, .at ylike0_14 false, .at ylike0_21 true, .is ylike0_2 0, .ge (.a 0) (-9223372036854775808), .le (.a 0) 9223372036854775807]) : LikeQ val :=
  leafK h (by kernel_rfl)

theorem like0_78 (val : Nat → Int) (h : Holds val [.le (.a 0) 255, .ge (.a 0) (-128), .ne (.a 0) 0, .is (.wrap .i64 ylike0_3) 0, .at ylike0_28 false, .at ylike0_27 false, .is (.shr ylike0_4 56) 0, .at ylike0_15 false, .at ylike0_14 false, .at ylike0_21 true, .is ylike0_2 0, .ge (.a 0) (-9223372036854775808), .le (.a 0) 9223372036854775807]) : LikeQ val := by
  exfalso
  have hb : Holds val (List.drop 10 _) := fun f hf => h f (List.mem_of_mem_drop hf)
  have ha : Holds val (List.take 1 _) := fun f hf => h f (List.mem_of_mem_take hf)
  have hc : Holds val (List.take 2 _) := fun f hf => h f (List.mem_of_mem_take hf)
  simp only [List.take_succ_cons, List.take_zero, List.drop_succ_cons, List.drop_zero, Holds, List.forall_mem_cons, List.not_mem_nil, false_implies, implies_true, and_true, Fact.holds, SB.eval, SX.eval, ylike0_0, ylike0_1, ylike0_2, ylike0_3, ylike0_4, ylike0_5, ylike0_6, ylike0_7, ylike0_8, ylike0_9, ylike0_10, ylike0_11, ylike0_12, ylike0_13, ylike0_14, ylike0_15, ylike0_16, ylike0_17, ylike0_18, ylike0_19, ylike0_20, ylike0_21, ylike0_22, ylike0_23, ylike0_24, ylike0_25, ylike0_26, ylike0_27, ylike0_28, wrapU, wrapI, fdivP, tmodP, beq_iff_eq, beq_eq_false_iff_ne, decide_eq_true_eq, decide_eq_false_iff_not, ne_eq] at h ha hb hc
  simp only [Int.reducePow] at h ha hb hc
  first | (clear h hc; omega) | (clear h; omega) | omega

theorem like0_79 (val : Nat → Int) (h : Holds val [.ne (.wrap .i64 ylike0_3) 0, .at ylike0_28 false, .at ylike0_27 false, .is (.shr ylike0_4 56) 0, .at ylike0_15 false, .at ylike0_14 false, .at ylike0_21 true, .is ylike0_2 0, .ge (.a 0) (-9223372036854775808), .le (.a 0) 9223372036854775807]) : LikeQ val := by
  exfalso
  have hb : Holds val (List.drop 7 _) := fun f hf => h f (List.mem_of_mem_drop hf)
  have ha : Holds val (List.take 1 _) := fun f hf => h f (List.mem_of_mem_take hf)
  have hc : Holds val (List.take 2 _) := fun f hf => h f (List.mem_of_mem_take hf)
  simp only [List.take_succ_cons, List.take_zero, List.drop_succ_cons, List.drop_zero, Holds, List.forall_mem_cons, List.not_mem_nil, false_implies, implies_true, and_true, Fact.holds, SB.eval, SX.eval, ylike0_0, ylike0_1, ylike0_2, ylike0_3, ylike0_4, ylike0_5, ylike0_6, ylike0_7, ylike0_8, ylike0_9, ylike0_10, ylike0_11, ylike0_12, ylike0_13, ylike0_14, ylike0_15, ylike0_16, ylike0_17, ylike0_18, ylike0_19, ylike0_20, ylike0_21, ylike0_22, ylike0_23, ylike0_24, ylike0_25, ylike0_26, ylike0_27, ylike0_28, wrapU, wrapI, fdivP, tmodP, beq_iff_eq, beq_eq_false_iff_ne, decide_eq_true_eq, decide_eq_false_iff_not, ne_eq] at h ha hb hc
  simp only [Int.reducePow] at h ha hb hc
  first | (clear h hc; omega) | (clear h; omega) | omega

theorem like0_80 (val : Nat → Int) (h : Holds val [.ne (.shr ylike0_4 56) 0, .at ylike0_15 false, .at ylike0_14 false, .at ylike0_21 true, .is ylike0_2 0, .ge (.a 0) (-9223372036854775808), .le (.a 0) 9223372036854775807]) : LikeQ val := by
  exfalso
  have hb : Holds val (List.drop 4 _) := fun f hf => h f (List.mem_of_mem_drop hf)
  have ha : Holds val (List.take 1 _) := fun f hf => h f (List.mem_of_mem_take hf)
  have hc : Holds val (List.take 2 _) := fun f hf => h f (List.mem_of_mem_take hf)
  simp only [List.take_succ_cons, List.take_zero, List.drop_succ_cons, List.drop_zero, Holds, List.forall_mem_cons, List.not_mem_nil, false_implies, implies_true, and_true, Fact.holds, SB.eval, SX.eval, ylike0_0, ylike0_1, ylike0_2, ylike0_3, ylike0_4, ylike0_5, ylike0_6, ylike0_7, ylike0_8, ylike0_9, ylike0_10, ylike0_11, ylike0_12, ylike0_13, ylike0_14, ylike0_15, ylike0_16, ylike0_17, ylike0_18, ylike0_19, ylike0_20, ylike0_21, ylike0_22, ylike0_23, ylike0_24, ylike0_25, ylike0_26, ylike0_27, ylike0_28, wrapU, wrapI, fdivP, tmodP, beq_iff_eq, beq_eq_false_iff_ne, decide_eq_true_eq, decide_eq_false_iff_not, ne_eq] at h ha hb hc
  simp only [Int.reducePow] at h ha hb hc
  first | (clear h hc; omega) | (clear h; omega) | omega

theorem like0_81 (val : Nat → Int) (h : Holds val [.is ylike0_24 0, .is ylike0_12 0, .le (.wrap .i64 ylike0_3) 255, .ge (.wrap .i64 ylike0_3) 0, .le (.shr ylike0_4 56) 127, .ge (.shr ylike0_4 56) (-128), .at ylike0_20 true, .at ylike0_25 true, .at ylike0_26 true, .at ylike0_27 true, .at ylike0_13 true, .at ylike0_14 true, .at ylike0_9 true, .at ylike0_21 false, .is ylike0_2 0, .ge (.a 0) (-9223372036854775808), .le (.a 0) 9223372036854775807]) : LikeQ val :=
  leafK h (by kernel_rfl)

theorem like0_82 (val : Nat → Int) (h : Holds val [.ne ylike0_24 0, .is ylike0_12 0, .le (.wrap .i64 ylike0_3) 255, .ge (.wrap .i64 ylike0_3) 0, .le (.shr ylike0_4 56) 127, .ge (.shr ylike0_4 56) (-128), .at ylike0_20 true, .at ylike0_25 true, .at ylike0_26 true, .at ylike0_27 true, .at ylike0_13 true, .at ylike0_14 true, .at ylike0_9 true, .at ylike0_21 false, .is ylike0_2 0, .ge (.a 0) (-9223372036854775808), .le (.a 0) 9223372036854775807]) : LikeQ val := by
  exfalso
  have hb : Holds val (List.drop 14 _) := fun f hf => h f (List.mem_of_mem_drop hf)
  have ha : Holds val (List.take 1 _) := fun f hf => h f (List.mem_of_mem_take hf)
  have hc : Holds val (List.take 2 _) := fun f hf => h f (List.mem_of_mem_take hf)
  simp only [List.take_succ_cons, List.take_zero, List.drop_succ_cons, List.drop_zero, Holds, List.forall_mem_cons, List.not_mem_nil, false_implies, implies_true, and_true, Fact.holds, SB.eval, SX.eval, ylike0_0, ylike0_1, ylike0_2, ylike0_3, ylike0_4, ylike0_5, ylike0_6, ylike0_7, ylike0_8, ylike0_9, ylike0_10, ylike0_11, ylike0_12, ylike0_13, ylike0_14, ylike0_15, ylike0_16, ylike0_17, ylike0_18, ylike0_19, ylike0_20, ylike0_21, ylike0_22, ylike0_23, ylike0_24, ylike0_25, ylike0_26, ylike0_27, ylike0_28, wrapU, wrapI, fdivP, tmodP, beq_iff_eq, beq_eq_false_iff_ne, decide_eq_true_eq, decide_eq_false_iff_not, ne_eq] at h ha hb hc
  simp only [Int.reducePow] at h ha hb hc
  first | (clear h hc; omega) | (clear h; omega) | omega

theorem like0_83 (val : Nat → Int) (h : Holds val [.ne ylike0_12 0, .le (.wrap .i64 ylike0_3) 255, .ge (.wrap .i64 ylike0_3) 0, .le (.shr ylike0_4 56) 127, .ge (.shr ylike0_4 56) (-128), .at ylike0_20 true, .at ylike0_25 true, .at ylike0_26 true, .at ylike0_27 true, .at ylike0_13 true, .at ylike0_14 true, .at ylike0_9 true, .at ylike0_21 false, .is ylike0_2 0, .ge (.a 0) (-9223372036854775808), .le (.a 0) 9223372036854775807]) : LikeQ val := by
  exfalso
  have hb : Holds val (List.drop 13 _) := fun f hf => h f (List.mem_of_mem_drop hf)
  have ha : Holds val (List.take 1 _) := fun f hf => h f (List.mem_of_mem_take hf)
  have hc : Holds val (List.take 2 _) := fun f hf => h f (List.mem_of_mem_take hf)
  simp only [List.take_succ_cons, List.take_zero, List.drop_succ_cons, List.drop_zero, Holds, List.forall_mem_cons, List.not_mem_nil, false_implies, implies_true, and_true, Fact.holds, SB.eval, SX.eval, ylike0_0, ylike0_1, ylike0_2, ylike0_3, ylike0_4, ylike0_5, ylike0_6, ylike0_7, ylike0_8, ylike0_9, ylike0_10, ylike0_11, ylike0_12, ylike0_13, ylike0_14, ylike0_15, ylike0_16, ylike0_17, ylike0_18, ylike0_19, ylike0_20, ylike0_21, ylike0_22, ylike0_23, ylike0_24, ylike0_25, ylike0_26, ylike0_27, ylike0_28, wrapU, wrapI, fdivP, tmodP, beq_iff_eq, beq_eq_false_iff_ne, decide_eq_true_eq, decide_eq_false_iff_not, ne_eq] at h ha hb hc
  simp only [Int.reducePow] at h ha hb hc
  first | (clear h hc; omega) | (clear h; omega) | omega

theorem like0_84 (val : Nat → Int) (h : Holds val [.ge (.wrap .i64 ylike0_3) 256, .ge (.wrap .i64 ylike0_3) 0, .le (.shr ylike0_4 56) 127, .ge (.shr ylike0_4 56) (-128), .at ylike0_20 true, .at ylike0_25 true, .at ylike0_26 true, .at ylike0_27 true, .at ylike0_13 true, .at ylike0_14 true, .at ylike0_9 true, .at ylike0_21 false, .is ylike0_2 0, .ge (.a 0) (-9223372036854775808), .le (.a 0) 9223372036854775807]) : LikeQ val := by
  exfalso
  have hb : Holds val (List.drop 12 _) := fun f hf => h f (List.mem_of_mem_drop hf)
  have ha : Holds val (List.take 1 _) := fun f hf => h f (List.mem_of_mem_take hf)
  have hc : Holds val (List.take 2 _) := fun f hf => h f (List.mem_of_mem_take hf)
  simp only [List.take_succ_cons, List.take_zero, List.drop_succ_cons, List.drop_zero, Holds, List.forall_mem_cons, List.not_mem_nil, false_implies, implies_true, and_true, Fact.holds, SB.eval, SX.eval, ylike0_0, ylike0_1, ylike0_2, ylike0_3, ylike0_4, ylike0_5, ylike0_6, ylike0_7, ylike0_8, ylike0_9, ylike0_10, ylike0_11, ylike0_12, ylike0_13, ylike0_14, ylike0_15, ylike0_16, ylike0_17, ylike0_18, ylike0_19, ylike0_20, ylike0_21, ylike0_22, ylike0_23, ylike0_24, ylike0_25, ylike0_26, ylike0_27, ylike0_28, wrapU, wrapI, fdivP, tmodP, beq_iff_eq, beq_eq_false_iff_ne, decide_eq_true_eq, decide_eq_false_iff_not, ne_eq] at h ha hb hc
  simp only [Int.reducePow] at h ha hb hc
  first | (clear h hc; omega) | (clear h; omega) | omega

theorem like0_85 (val : Nat → Int) (h : Holds val [.le (.wrap .i64 ylike0_3) (-1), .le (.shr ylike0_4 56) 127, .ge (.shr ylike0_4 56) (-128), .at ylike0_20 true, .at ylike0_25 true, .at ylike0_26 true, .at ylike0_27 true, .at ylike0_13 true, .at ylike0_14 true, .at ylike0_9 true, .at ylike0_21 false, .is ylike0_2 0, .ge (.a 0) (-9223372036854775808), .le (.a 0) 9223372036854775807]) : LikeQ val := by
  exfalso
  have hb : Holds val (List.drop 11 _) := fun f hf => h f (List.mem_of_mem_drop hf)
  have ha : Holds val (List.take 1 _) := fun f hf => h f (List.mem_of_mem_take hf)
  have hc : Holds val (List.take 2 _) := fun f hf => h f (List.mem_of_mem_take hf)
  simp only [List.take_succ_cons, List.take_zero, List.drop_succ_cons, List.drop_zero, Holds, List.forall_mem_cons, List.not_mem_nil, false_implies, implies_true, and_true, Fact.holds, SB.eval, SX.eval, ylike0_0, ylike0_1, ylike0_2, ylike0_3, ylike0_4, ylike0_5, ylike0_6, ylike0_7, ylike0_8, ylike0_9, ylike0_10, ylike0_11, ylike0_12, ylike0_13, ylike0_14, ylike0_15, ylike0_16, ylike0_17, ylike0_18, ylike0_19, ylike0_20, ylike0_21, ylike0_22, ylike0_23, ylike0_24, ylike0_25, ylike0_26, ylike0_27, ylike0_28, wrapU, wrapI, fdivP, tmodP, beq_iff_eq, beq_eq_false_iff_ne, decide_eq_true_eq, decide_eq_false_iff_not, ne_eq] at h ha hb hc
  simp only [Int.reducePow] at h ha hb hc
  first | (clear h hc; omega) | (clear h; omega) | omega

theorem like0_86 (val : Nat → Int) (h : Holds val [.ge (.shr ylike0_4 56) 128, .ge (.shr ylike0_4 56) (-128), .at ylike0_20 true, .at ylike0_25 true, .at ylike0_26 true, .at ylike0_27 true, .at ylike0_13 true, .at ylike0_14 true, .at ylike0_9 true, .at ylike0_21 false, .is ylike0_2 0, .ge (.a 0) (-9223372036854775808), .le (.a 0) 9223372036854775807]) : LikeQ val := by
  exfalso
  have hb : Holds val (List.drop 10 _) := fun f hf => h f (List.mem_of_mem_drop hf)
  have ha : Holds val (List.take 1 _) := fun f hf => h f (List.mem_of_mem_take hf)
  have hc : Holds val (List.take 2 _) := fun f hf => h f (List.mem_of_mem_take hf)
  simp only [List.take_succ_cons, List.take_zero, List.drop_succ_cons, List.drop_zero, Holds, List.forall_mem_cons, List.not_mem_nil, false_implies, implies_true, and_true, Fact.holds, SB.eval, SX.eval, ylike0_0, ylike0_1, ylike0_2, ylike0_3, ylike0_4, ylike0_5, ylike0_6, ylike0_7, ylike0_8, ylike0_9, ylike0_10, ylike0_11, ylike0_12, ylike0_13, ylike0_14, ylike0_15, ylike0_16, ylike0_17, ylike0_18, ylike0_19, ylike0_20, ylike0_21, ylike0_22, ylike0_23, ylike0_24, ylike0_25, ylike0_26, ylike0_27, ylike0_28, wrapU, wrapI, fdivP, tmodP, beq_iff_eq, beq_eq_false_iff_ne, decide_eq_true_eq, decide_eq_false_iff_not, ne_eq] at h ha hb hc
  simp only [Int.reducePow] at h ha hb hc
  first | (clear h hc; omega) | (clear h; omega) | omega

theorem like0_87 (val : Nat → Int) (h : Holds val [.le (.shr ylike0_4 56) (-129), .at ylike0_20 true, .at ylike0_25 true, .at ylike0_26 true, .at ylike0_27 true, .at ylike0_13 true, .at ylike0_14 true, .at ylike0_9 true, .at ylike0_21 false, .is ylike0_2 0, .ge (.a 0) (-9223372036854775808), .le (.a 0) 9223372036854775807]) : LikeQ val := by
  exfalso
  have hb : Holds val (List.drop 9 _) := fun f hf => h f (List.mem_of_mem_drop hf)
  have ha : Holds val (List.take 1 _) := fun f hf => h f (List.mem_of_mem_take hf)
  have hc : Holds val (List.take 2 _) := fun f hf => h f (List.mem_of_mem_take hf)
  simp only [List.take_succ_cons, List.take_zero, List.drop_succ_cons, List.drop_zero, Holds, List.forall_mem_cons, List.not_mem_nil, false_implies, implies_true, and_true, Fact.holds, SB.eval, SX.eval, ylike0_0, ylike0_1, ylike0_2, ylike0_3, ylike0_4, ylike0_5, ylike0_6, ylike0_7, ylike0_8, ylike0_9, ylike0_10, ylike0_11, ylike0_12, ylike0_13, ylike0_14, ylike0_15, ylike0_16, ylike0_17, ylike0_18, ylike0_19, ylike0_20, ylike0_21, ylike0_22, ylike0_23, ylike0_24, ylike0_25, ylike0_26, ylike0_27, ylike0_28, wrapU, wrapI, fdivP, tmodP, beq_iff_eq, beq_eq_false_iff_ne, decide_eq_true_eq, decide_eq_false_iff_not, ne_eq] at h ha hb hc
  simp only [Int.reducePow] at h ha hb hc
  first | (clear h hc; omega) | (clear h; omega) | omega

theorem like0_88 (val : Nat → Int) (h : Holds val [.at ylike0_20 false, .at ylike0_25 true, .at ylike0_26 true, .at ylike0_27 true, .at ylike0_13 true, .at ylike0_14 true, .at ylike0_9 true, .at ylike0_21 false, .is ylike0_2 0, .ge (.a 0) (-9223372036854775808), .le (.a 0) 9223372036854775807]) : LikeQ val := by
  exfalso
  have hb : Holds val (List.drop 8 _) := fun f hf => h f (List.mem_of_mem_drop hf)
  have ha : Holds val (List.take 1 _) := fun f hf => h f (List.mem_of_mem_take hf)
  have hc : Holds val (List.take 2 _) := fun f hf => h f (List.mem_of_mem_take hf)
  simp only [List.take_succ_cons, List.take_zero, List.drop_succ_cons, List.drop_zero, Holds, List.forall_mem_cons, List.not_mem_nil, false_implies, implies_true, and_true, Fact.holds, SB.eval, SX.eval, ylike0_0, ylike0_1, ylike0_2, ylike0_3, ylike0_4, ylike0_5, ylike0_6, ylike0_7, ylike0_8, ylike0_9, ylike0_10, ylike0_11, ylike0_12, ylike0_13, ylike0_14, ylike0_15, ylike0_16, ylike0_17, ylike0_18, ylike0_19, ylike0_20, ylike0_21, ylike0_22, ylike0_23, ylike0_24, ylike0_25, ylike0_26, ylike0_27, ylike0_28, wrapU, wrapI, fdivP, tmodP, beq_iff_eq, beq_eq_false_iff_ne, decide_eq_true_eq, decide_eq_false_iff_not, ne_eq] at h ha hb hc
  simp only [Int.reducePow] at h ha hb hc
  first | (clear h hc; omega) | (clear h; omega) | omega

theorem like0_89 (val : Nat → Int) (h : Holds val [.at ylike0_25 false, .at ylike0_26 true, .at ylike0_27 true, .at ylike0_13 true, .at ylike0_14 true, .at ylike0_9 true, .at ylike0_21 false, .is ylike0_2 0, .ge (.a 0) (-9223372036854775808), .le (.a 0) 9223372036854775807]) : LikeQ val := by
  exfalso
  have hb : Holds val (List.drop 7 _) := fun f hf => h f (List.mem_of_mem_drop hf)
  have ha : Holds val (List.take 1 _) := fun f hf => h f (List.mem_of_mem_take hf)
  have hc : Holds val (List.take 2 _) := fun f hf => h f (List.mem_of_mem_take hf)
  simp only [List.take_succ_cons, List.take_zero, List.drop_succ_cons, List.drop_zero, Holds, List.forall_mem_cons, List.not_mem_nil, false_implies, implies_true, and_true, Fact.holds, SB.eval, SX.eval, ylike0_0, ylike0_1, ylike0_2, ylike0_3, ylike0_4, ylike0_5, ylike0_6, ylike0_7, ylike0_8, ylike0_9, ylike0_10, ylike0_11, ylike0_12, ylike0_13, ylike0_14, ylike0_15, ylike0_16, ylike0_17, ylike0_18, ylike0_19, ylike0_20, ylike0_21, ylike0_22, ylike0_23, ylike0_24, ylike0_25, ylike0_26, ylike0_27, ylike0_28, wrapU, wrapI, fdivP, tmodP, beq_iff_eq, beq_eq_false_iff_ne, decide_eq_true_eq, decide_eq_false_iff_not, ne_eq] at h ha hb hc
  simp only [Int.reducePow] at h ha hb hc
  first | (clear h hc; omega) | (clear h; omega) | omega

theorem like0_90 (val : Nat → Int) (h : Holds val [.at ylike0_26 false, .at ylike0_27 true, .at ylike0_13 true, .at ylike0_14 true, .at ylike0_9 true, .at ylike0_21 false, .is ylike0_2 0, .ge (.a 0) (-9223372036854775808), .le (.a 0) 9223372036854775807]) : LikeQ val := by
  exfalso
  have hb : Holds val (List.drop 6 _) := fun f hf => h f (List.mem_of_mem_drop hf)
  have ha : Holds val (List.take 1 _) := fun f hf => h f (List.mem_of_mem_take hf)
  have hc : Holds val (List.take 2 _) := fun f hf => h f (List.mem_of_mem_take hf)
  simp only [List.take_succ_cons, List.take_zero, List.drop_succ_cons, List.drop_zero, Holds, List.forall_mem_cons, List.not_mem_nil, false_implies, implies_true, and_true, Fact.holds, SB.eval, SX.eval, ylike0_0, ylike0_1, ylike0_2, ylike0_3, ylike0_4, ylike0_5, ylike0_6, ylike0_7, ylike0_8, ylike0_9, ylike0_10, ylike0_11, ylike0_12, ylike0_13, ylike0_14, ylike0_15, ylike0_16, ylike0_17, ylike0_18, ylike0_19, ylike0_20, ylike0_21, ylike0_22, ylike0_23, ylike0_24, ylike0_25, ylike0_26, ylike0_27, ylike0_28, wrapU, wrapI, fdivP, tmodP, beq_iff_eq, beq_eq_false_iff_ne, decide_eq_true_eq, decide_eq_false_iff_not, ne_eq] at h ha hb hc
  simp only [Int.reducePow] at h ha hb hc
  first | (clear h hc; omega) | (clear h; omega) | omega

theorem like0_91 (val : Nat → Int) (h : Holds val [.is ylike0_24 0, .is ylike0_12 0, .le (.wrap .i64 ylike0_3) 255, .ge (.wrap .i64 ylike0_3) 0, .le (.shr ylike0_4 56) 127, .ge (.shr ylike0_4 56) (-128), .at ylike0_20 true, .at ylike0_25 true, .at ylike0_26 true, .at ylike0_28 true, .at ylike0_27 false, .at ylike0_13 true, .at ylike0_14 true, .at ylike0_9 true, .at ylike0_21 false, .is ylike0_2 0, .ge (.a 0) (-9223372036854775808), .le (.a 0) 9223372036854775807]) : LikeQ val :=
  leafK h (by kernel_rfl)

theorem like0_92 (val : Nat → Int) (h : Holds val [.ne ylike0_24 0, .is ylike0_12 0, .le (.wrap .i64 ylike0_3) 255, .ge (.wrap .i64 ylike0_3) 0, .le (.shr ylike0_4 56) 127, .ge (.shr ylike0_4 56) (-128), .at ylike0_20 true, .at ylike0_25 true, .at ylike0_26 true, .at ylike0_28 true, .at ylike0_27 false, .at ylike0_13 true, .at ylike0_14 true, .at ylike0_9 true, .at ylike0_21 false, .is ylike0_2 0, .ge (.a 0) (-9223372036854775808), .le (.a 0) 9223372036854775807]) : LikeQ val := by
  exfalso
  have hb : Holds val (List.drop 15 _) := fun f hf => h f (List.mem_of_mem_drop hf)
  have ha : Holds val (List.take 1 _) := fun f hf => h f (List.mem_of_mem_take hf)
  have hc : Holds val (List.take 2 _) := fun f hf => h f (List.mem_of_mem_take hf)
  simp only [List.take_succ_cons, List.take_zero, List.drop_succ_cons, List.drop_zero, Holds, List.forall_mem_cons, List.not_mem_nil, false_implies, implies_true, and_true, Fact.holds, SB.eval, SX.eval, ylike0_0, ylike0_1, ylike0_2, ylike0_3, ylike0_4, ylike0_5, ylike0_6, ylike0_7, ylike0_8, ylike0_9, ylike0_10, ylike0_11, ylike0_12, ylike0_13, ylike0_14, ylike0_15, ylike0_16, ylike0_17, ylike0_18, ylike0_19, ylike0_20, ylike0_21, ylike0_22, ylike0_23, ylike0_24, ylike0_25, ylike0_26, ylike0_27, ylike0_28, wrapU, wrapI, fdivP, tmodP, beq_iff_eq, beq_eq_false_iff_ne, decide_eq_true_eq, decide_eq_false_iff_not, ne_eq] at h ha hb hc
  simp only [Int.reducePow] at h ha hb hc
  first | (clear h hc; omega) | (clear h; omega) | omega

theorem like0_93 (val : Nat → Int) (h : Holds val [.ne ylike0_12 0, .le (.wrap .i64 ylike0_3) 255, .ge (.wrap .i64 ylike0_3) 0, .le (.shr ylike0_4 56) 127, .ge (.shr ylike0_4 56) (-128), .at ylike0_20 true, .at ylike0_25 true, .at ylike0_26 true, .at ylike0_28 true, .at ylike0_27 false, .at ylike0_13 true, .at ylike0_14 true, .at ylike0_9 true, .at ylike0_21 false, .is ylike0_2 0, .ge (.a 0) (-9223372036854775808), .le (.a 0) 9223372036854775807]) : LikeQ val := by
  exfalso
  have hb : Holds val (List.drop 14 _) := fun f hf => h f (List.mem_of_mem_drop hf)
  have ha : Holds val (List.take 1 _) := fun f hf => h f (List.mem_of_mem_take hf)
  have hc : Holds val (List.take 2 _) := fun f hf => h f (List.mem_of_mem_take hf)
  simp only [List.take_succ_cons, List.take_zero, List.drop_succ_cons, List.drop_zero, Holds, List.forall_mem_cons, List.not_mem_nil, false_implies, implies_true, and_true, Fact.holds, SB.eval, SX.eval, ylike0_0, ylike0_1, ylike0_2, ylike0_3, ylike0_4, ylike0_5, ylike0_6, ylike0_7, ylike0_8, ylike0_9, ylike0_10, ylike0_11, ylike0_12, ylike0_13, ylike0_14, ylike0_15, ylike0_16, ylike0_17, ylike0_18, ylike0_19, ylike0_20, ylike0_21, ylike0_22, ylike0_23, ylike0_24, ylike0_25, ylike0_26, ylike0_27, ylike0_28, wrapU, wrapI, fdivP, tmodP, beq_iff_eq, beq_eq_false_iff_ne, decide_eq_true_eq, decide_eq_false_iff_not, ne_eq] at h ha hb hc
  simp only [Int.reducePow] at h ha hb hc
  first | (clear h hc; omega) | (clear h; omega) | omega

theorem like0_94 (val : Nat → Int) (h : Holds val [.ge (.wrap .i64 ylike0_3) 256, .ge (.wrap .i64 ylike0_3) 0, .le (.shr ylike0_4 56) 127, .ge (.shr ylike0_4 56) (-128), .at ylike0_20 true, .at ylike0_25 true, .at ylike0_26 true, .at ylike0_28 true, .at ylike0_27 false, .at ylike0_13 true, .at ylike0_14 true, .at ylike0_9 true, .at ylike0_21 false, .is ylike0_2 0, .ge (.a 0) (-9223372036854775808), .le (.a 0) 9223372036854775807]) : LikeQ val := by
  exfalso
  have hb : Holds val (List.drop 13 _) := fun f hf => h f (List.mem_of_mem_drop hf)
  have ha : Holds val (List.take 1 _) := fun f hf => h f (List.mem_of_mem_take hf)
  have hc : Holds val (List.take 2 _) := fun f hf => h f (List.mem_of_mem_take hf)
  simp only [List.take_succ_cons, List.take_zero, List.drop_succ_cons, List.drop_zero, Holds, List.forall_mem_cons, List.not_mem_nil, false_implies, implies_true, and_true, Fact.holds, SB.eval, SX.eval, ylike0_0, ylike0_1, ylike0_2, ylike0_3, ylike0_4, ylike0_5, ylike0_6, ylike0_7, ylike0_8, ylike0_9, ylike0_10, ylike0_11, ylike0_12, ylike0_13, ylike0_14, ylike0_15, ylike0_16, ylike0_17, ylike0_18, ylike0_19, ylike0_20, ylike0_21, ylike0_22, ylike0_23, ylike0_24, ylike0_25, ylike0_26, ylike0_27, ylike0_28, wrapU, wrapI, fdivP, tmodP, beq_iff_eq, beq_eq_false_iff_ne, decide_eq_true_eq, decide_eq_false_iff_not, ne_eq] at h ha hb hc
  simp only [Int.reducePow] at h ha hb hc
  first | (clear h hc; omega) | (clear h; omega) | omega

theorem like0_95 (val : Nat → Int) (h : Holds val [.le (.wrap .i64 ylike0_3) (-1), .le (.shr ylike0_4 56) 127, .ge (.shr ylike0_4 56) (-128), .at ylike0_20 true, .at ylike0_25 true, .at ylike0_26 true, .at ylike0_28 true, .at ylike0_27 false, .at ylike0_13 true, .at ylike0_14 true, .at ylike0_9 true, .at ylike0_21 false, .is ylike0_2 0, .ge (.a 0) (-9223372036854775808), .le (.a 0) 9223372036854775807]) : LikeQ val := by
  exfalso
  have hb : Holds val (List.drop 12 _) := fun f hf => h f (List.mem_of_mem_drop hf)
  have ha : Holds val (List.take 1 _) := fun f hf => h f (List.mem_of_mem_take hf)
  have hc : Holds val (List.take 2 _) := fun f hf => h f (List.mem_of_mem_take hf)
  simp only [List.take_succ_cons, List.take_zero, List.drop_succ_cons, List.drop_zero, Holds, List.forall_mem_cons, List.not_mem_nil, false_implies, implies_true, and_true, Fact.holds, SB.eval, SX.eval, ylike0_0, ylike0_1, ylike0_2, ylike0_3, ylike0_4, ylike0_5, ylike0_6, ylike0_7, ylike0_8, ylike0_9, ylike0_10, ylike0_11, ylike0_12, ylike0_13, ylike0_14, ylike0_15, ylike0_16, ylike0_17, ylike0_18, ylike0_19, ylike0_20, ylike0_21, ylike0_22, ylike0_23, ylike0_24, ylike0_25, ylike0_26, ylike0_27, ylike0_28, wrapU, wrapI, fdivP, tmodP, beq_iff_eq, beq_eq_false_iff_ne, decide_eq_true_eq, decide_eq_false_iff_not, ne_eq] at h ha hb hc
  simp only [Int.reducePow] at h ha hb hc
  first | (clear h hc; omega) | (clear h; omega) | omega

theorem like0_96 (val : Nat → Int) (h : Holds val [.ge (.shr ylike0_4 56) 128, .ge (.shr ylike0_4 56) (-128), .at ylike0_20 true, .at ylike0_25 true, .at ylike0_26 true, .at ylike0_28 true, .at ylike0_27 false, .at ylike0_13 true, .at ylike0_14 true, .at ylike0_9 true, .at ylike0_21 false, .is ylike0_2 0, .ge (.a 0) (-9223372036854775808), .le (.a 0) 9223372036854775807]) : LikeQ val := by
  exfalso
  have hb : Holds val (List.drop 11 _) := fun f hf => h f (List.mem_of_mem_drop hf)
  have ha : Holds val (List.take 1 _) := fun f hf => h f (List.mem_of_mem_take hf)
  have hc : Holds val (List.take 2 _) := fun f hf => h f (List.mem_of_mem_take hf)
  simp only [List.take_succ_cons, List.take_zero, List.drop_succ_cons, List.drop_zero, Holds, List.forall_mem_cons, List.not_mem_nil, false_implies, implies_true, and_true, Fact.holds, SB.eval, SX.eval, ylike0_0, ylike0_1, ylike0_2, ylike0_3, ylike0_4, ylike0_5, ylike0_6, ylike0_7, ylike0_8, ylike0_9, ylike0_10, ylike0_11, ylike0_12, ylike0_13, ylike0_14, ylike0_15, ylike0_16, ylike0_17, ylike0_18, ylike0_19, ylike0_20, ylike0_21, ylike0_22, ylike0_23, ylike0_24, ylike0_25, ylike0_26, ylike0_27, ylike0_28, wrapU, wrapI, fdivP, tmodP, beq_iff_eq, beq_eq_false_iff_ne, decide_eq_true_eq, decide_eq_false_iff_not, ne_eq] at h ha hb hc
  simp only [Int.reducePow] at h ha hb hc
  first | (clear h hc; omega) | (clear h; omega) | omega

theorem like0_97 (val : Nat → Int) (h : Holds val [.le (.shr ylike0_4 56) (-129), .at ylike0_20 true, .at ylike0_25 true, .at ylike0_26 true, .at ylike0_28 true, .at ylike0_27 false, .at ylike0_13 true, .at ylike0_14 true, .at ylike0_9 true, .at ylike0_21 false, .is ylike0_2 0, .ge (.a 0) (-9223372036854775808), .le (.a 0) 9223372036854775807]) : LikeQ val := by
  exfalso
  have hb : Holds val (List.drop 10 _) := fun f hf => h f (List.mem_of_mem_drop hf)
  have ha : Holds val (List.take 1 _) := fun f hf => h f (List.mem_of_mem_take hf)
  have hc : Holds val (List.take 2 _) := fun f hf => h f (List.mem_of_mem_take hf)
  simp only [List.take_succ_cons, List.take_zero, List.drop_succ_cons, List.drop_zero, Holds, List.forall_mem_cons, List.not_mem_nil, false_implies, implies_true, and_true, Fact.holds, SB.eval, SX.eval, ylike0_0, ylike0_1, ylike0_2, ylike0_3, ylike0_4, ylike0_5, ylike0_6, ylike0_7, ylike0_8, ylike0_9, ylike0_10, ylike0_11, ylike0_12, ylike0_13, ylike0_14, ylike0_15, ylike0_16, ylike0_17, ylike0_18, ylike0_19, ylike0_20, ylike0_21, ylike0_22, ylike0_23, ylike0_24, ylike0_25, ylike0_26, ylike0_27, ylike0_28, wrapU, wrapI, fdivP, tmodP, beq_iff_eq, beq_eq_false_iff_ne, decide_eq_true_eq, decide_eq_false_iff_not, ne_eq] at h ha hb hc
  simp only [Int.reducePow] at h ha hb hc
  first | (clear h hc; omega) | (clear h; omega) | omega

theorem like0_98 (val : Nat → Int) (h : Holds val [.at ylike0_20 false, .at ylike0_25 true, .at ylike0_26 true, .at ylike0_28 true, .at ylike0_27 false, .at ylike0_13 true, .at ylike0_14 true, .at ylike0_9 true, .at ylike0_21 false, .is ylike0_2 0, .ge (.a 0) (-9223372036854775808), .le (.a 0) 9223372036854775807]) : LikeQ val := by
  exfalso
  have hb : Holds val (List.drop 9 _) := fun f hf => h f (List.mem_of_mem_drop hf)
  have ha : Holds val (List.take 1 _) := fun f hf => h f (List.mem_of_mem_take hf)
  have hc : Holds val (List.take 2 _) := fun f hf => h f (List.mem_of_mem_take hf)
  simp only [List.take_succ_cons, List.take_zero, List.drop_succ_cons, List.drop_zero, Holds, List.forall_mem_cons, List.not_mem_nil, false_implies, implies_true, and_true, Fact.holds, SB.eval, SX.eval, ylike0_0, ylike0_1, ylike0_2, ylike0_3, ylike0_4, ylike0_5, ylike0_6, ylike0_7, ylike0_8, ylike0_9, ylike0_10, ylike0_11, ylike0_12, ylike0_13, ylike0_14, ylike0_15, ylike0_16, ylike0_17, ylike0_18, ylike0_19, ylike0_20, ylike0_21, ylike0_22, ylike0_23, ylike0_24, ylike0_25, ylike0_26, ylike0_27, ylike0_28, wrapU, wrapI, fdivP, tmodP, beq_iff_eq, beq_eq_false_iff_ne, decide_eq_true_eq, decide_eq_false_iff_not, ne_eq] at h ha hb hc
  simp only [Int.reducePow] at h ha hb hc
  first | (clear h hc; omega) | (clear h; omega) | omega

theorem like0_99 (val : Nat → Int) (h : Holds val [.at ylike0_25 false, .at ylike0_26 true, .at ylike0_28 true, .at ylike0_27 false, .at ylike0_13 true, .at ylike0_14 true, .at ylike0_9 true, .at ylike0_21 false, .is ylike0_2 0, .ge (.a 0) (-9223372036854775808), .le (.a 0) 9223372036854775807]) : LikeQ val := by
  exfalso
  have hb : Holds val (List.drop 8 _) := fun f hf => h f (List.mem_of_mem_drop hf)
  have ha : Holds val (List.take 1 _) := fun f hf => h f (List.mem_of_mem_take hf)
  have hc : Holds val (List.take 2 _) := fun f hf => h f (List.mem_of_mem_take hf)
  simp only [List.take_succ_cons, List.take_zero, List.drop_succ_cons, List.drop_zero, Holds, List.forall_mem_cons, List.not_mem_nil, false_implies, implies_true, and_true, Fact.holds, SB.eval, SX.eval, ylike0_0, ylike0_1, ylike0_2, ylike0_3, ylike0_4, ylike0_5, ylike0_6, ylike0_7, ylike0_8, ylike0_9, ylike0_10, ylike0_11, ylike0_12, ylike0_13, ylike0_14, ylike0_15, ylike0_16, ylike0_17, ylike0_18, ylike0_19, ylike0_20, ylike0_21, ylike0_22, ylike0_23, ylike0_24, ylike0_25, ylike0_26, ylike0_27, ylike0_28, wrapU, wrapI, fdivP, tmodP, beq_iff_eq, beq_eq_false_iff_ne, decide_eq_true_eq, decide_eq_false_iff_not, ne_eq] at h ha hb hc
  simp only [Int.reducePow] at h ha hb hc
  first | (clear h hc; omega) | (clear h; omega) | omega

theorem like0_100 (val : Nat → Int) (h : Holds val [.at ylike0_26 false, .at ylike0_28 true, .at ylike0_27 false, .at ylike0_13 true, .at ylike0_14 true, .at ylike0_9 true, .at ylike0_21 false, .is ylike0_2 0, .ge (.a 0) (-9223372036854775808), .le (.a 0) 9223372036854775807]) : LikeQ val := by
  exfalso
  have hb : Holds val (List.drop 7 _) := fun f hf => h f (List.mem_of_mem_drop hf)
  have ha : Holds val (List.take 1 _) := fun f hf => h f (List.mem_of_mem_take hf)
  have hc : Holds val (List.take 2 _) := fun f hf => h f (List.mem_of_mem_take hf)
  simp only [List.take_succ_cons, List.take_zero, List.drop_succ_cons, List.drop_zero, Holds, List.forall_mem_cons, List.not_mem_nil, false_implies, implies_true, and_true, Fact.holds, SB.eval, SX.eval, ylike0_0, ylike0_1, ylike0_2, ylike0_3, ylike0_4, ylike0_5, ylike0_6, ylike0_7, ylike0_8, ylike0_9, ylike0_10, ylike0_11, ylike0_12, ylike0_13, ylike0_14, ylike0_15, ylike0_16, ylike0_17, ylike0_18, ylike0_19, ylike0_20, ylike0_21, ylike0_22, ylike0_23, ylike0_24, ylike0_25, ylike0_26, ylike0_27, ylike0_28, wrapU, wrapI, fdivP, tmodP, beq_iff_eq, beq_eq_false_iff_ne, decide_eq_true_eq, decide_eq_false_iff_not, ne_eq] at h ha hb hc
  simp only [Int.reducePow] at h ha hb hc
  first | (clear h hc; omega) | (clear h; omega) | omega

theorem like0_101 (val : Nat → Int) (h : Holds val [.is (.a 0) 0, .is (.wrap .i64 ylike0_3) 0, .at ylike0_28 false, .at ylike0_27 false, .at ylike0_13 true, .at ylike0_14 true, .at ylike0_9 true, .at ylike0_21 false, .is ylike0_2 0, .ge (.a 0) (-9223372036854775808), .le (.a 0) 9223372036854775807]) : LikeQ val :=
  leafK h (by kernel_rfl)

theorem like0_102 (val : Nat → Int) (h : Holds val [.le (.a 0) (-129), .is (.shr ylike0_4 56) 0, .is ylike0_7 0, .ne (.a 0) 0, .is (.wrap .i64 ylike0_3) 0, .at ylike0_28 false, .at ylike0_27 false, .at ylike0_13 true, .at ylike0_14 true, .at ylike0_9 true, .at ylike0_21 false, .is ylike0_2 0, .ge (.a 0) (-9223372036854775808), .le (.a 0) 9223372036854775807]) : LikeQ val :=
  leafK h (by kernel_rfl)

theorem like0_103 (val : Nat → Int) (h : Holds val [.ge (.a 0) 256, .ge (.a 0) (-128), .is (.shr ylike0_4 56) 0, .is ylike0_7 0, .ne (.a 0) 0, .is (.wrap .i64 ylike0_3) 0, .at ylike0_28 false, .at ylike0_27 false, .at ylike0_13 true, .at ylike0_14 true, .at ylike0_9 true, .at ylike0_21 false, .is ylike0_2 0, .ge (.a 0) (-9223372036854775808), .le (.a 0) 9223372036854775807]) : LikeQ val :=
  leafK h (by kernel_rfl)

theorem like0_104 (val : Nat → Int) (h : Holds val [.le (.a 0) 255, .ge (.a 0) (-128), .is (.shr ylike0_4 56) 0, .is ylike0_7 0, .ne (.a 0) 0, .is (.wrap .i64 ylike0_3) 0, .at ylike0_28 false, .at ylike0_27 false, .at ylike0_13 true, .at ylike0_14 true, .at ylike0_9 true, .at ylike0_21 false, .is ylike0_2 0, .ge (.a 0) (-9223372036854775808), .le (.a 0) 9223372036854775807]) : LikeQ val := by
  exfalso
  have hb : Holds val (List.drop 12 _) := fun f hf => h f (List.mem_of_mem_drop hf)
  have ha : Holds val (List.take 1 _) := fun f hf => h f (List.mem_of_mem_take hf)
  have hc : Holds val (List.take 2 _) := fun f hf => h f (List.mem_of_mem_take hf)
  simp only [List.take_succ_cons, List.take_zero, List.drop_succ_cons, List.drop_zero, Holds, List.forall_mem_cons, List.not_mem_nil, false_implies, implies_true, and_true, Fact.holds, SB.eval, SX.eval, ylike0_0, ylike0_1, ylike0_2, ylike0_3, ylike0_4, ylike0_5, ylike0_6, ylike0_7, ylike0_8, ylike0_9, ylike0_10, ylike0_11, ylike0_12, ylike0_13, ylike0_14, ylike0_15, ylike0_16, ylike0_17, ylike0_18, ylike0_19, ylike0_20, ylike0_21, ylike0_22, ylike0_23, ylike0_24, ylike0_25, ylike0_26, ylike0_27, ylike0_28, wrapU, wrapI, fdivP, tmodP, beq_iff_eq, beq_eq_false_iff_ne, decide_eq_true_eq, decide_eq_false_iff_not, ne_eq] at h ha hb hc
  simp only [Int.reducePow] at h ha hb hc
  first | (clear h hc; omega) | (clear h; omega) | omega

theorem like0_105 (val : Nat → Int) (h : Holds val [.at ylike0_15 true, .ne (.shr ylike0_4 56) 0, .is ylike0_7 0, .ne (.a 0) 0, .is (.wrap .i64 ylike0_3) 0, .at ylike0_28 false, .at ylike0_27 false, .at ylike0_13 true, .at ylike0_14 true, .at ylike0_9 true, .at ylike0_21 false, .is ylike0_2 0, .ge (.a 0) (-9223372036854775808), .le (.a 0) 9223372036854775807]) : LikeQ val := by
  exfalso
  have hb : Holds val (List.drop 11 _) := fun f hf => h f (List.mem_of_mem_drop hf)
  have ha : Holds val (List.take 1 _) := fun f hf => h f (List.mem_of_mem_take hf)
  have hc : Holds val (List.take 2 _) := fun f hf => h f (List.mem_of_mem_take hf)
  simp only [List.take_succ_cons, List.take_zero, List.drop_succ_cons, List.drop_zero, Holds, List.forall_mem_cons, List.not_mem_nil, false_implies, implies_true, and_true, Fact.holds, SB.eval, SX.eval, ylike0_0, ylike0_1, ylike0_2, ylike0_3, ylike0_4, ylike0_5, ylike0_6, ylike0_7, ylike0_8, ylike0_9, ylike0_10, ylike0_11, ylike0_12, ylike0_13, ylike0_14, ylike0_15, ylike0_16, ylike0_17, ylike0_18, ylike0_19, ylike0_20, ylike0_21, ylike0_22, ylike0_23, ylike0_24, ylike0_25, ylike0_26, ylike0_27, ylike0_28, wrapU, wrapI, fdivP, tmodP, beq_iff_eq, beq_eq_false_iff_ne, decide_eq_true_eq, decide_eq_false_iff_not, ne_eq] at h ha hb hc
  simp only [Int.reducePow] at h ha hb hc
  first | (clear h hc; omega) | (clear h; omega) | omega

theorem like0_106 (val : Nat → Int) (h : Holds val [.at ylike0_15 false, .ne (.shr ylike0_4 56) 0, .is ylike0_7 0, .ne (.a 0) 0, .is (.wrap .i64 ylike0_3) 0, .at ylike0_28 false, .at ylike0_27 false, .at ylike0_13 true, .at ylike0_14 true, .at ylike0_9 true, .at ylike0_21 false, .is ylike0_2 0, .ge (.a 0) (-9223372036854775808), .le (.a 0) 9223372036854775807]) : LikeQ val := by
  exfalso
  have hb : Holds val (List.drop 11 _) := fun f hf => h f (List.mem_of_mem_drop hf)
  have ha : Holds val (List.take 1 _) := fun f hf => h f (List.mem_of_mem_take hf)
  have hc : Holds val (List.take 2 _) := fun f hf => h f (List.mem_of_mem_take hf)
  simp only [List.take_succ_cons, List.take_zero, List.drop_succ_cons, List.drop_zero, Holds, List.forall_mem_cons, List.not_mem_nil, false_implies, implies_true, and_true, Fact.holds, SB.eval, SX.eval, ylike0_0, ylike0_1, ylike0_2, ylike0_3, ylike0_4, ylike0_5, ylike0_6, ylike0_7, ylike0_8, ylike0_9, ylike0_10, ylike0_11, ylike0_12, ylike0_13, ylike0_14, ylike0_15, ylike0_16, ylike0_17, ylike0_18, ylike0_19, ylike0_20, ylike0_21, ylike0_22, ylike0_23, ylike0_24, ylike0_25, ylike0_26, ylike0_27, ylike0_28, wrapU, wrapI, fdivP, tmodP, beq_iff_eq, beq_eq_false_iff_ne, decide_eq_true_eq, decide_eq_false_iff_not, ne_eq] at h ha hb hc
  simp only [Int.reducePow] at h ha hb hc
  first | (clear h hc; omega) | (clear h; omega) | omega

theorem like0_107 (val : Nat → Int) (h : Holds val [.ne ylike0_7 0, .ne (.a 0) 0, .is (.wrap .i64 ylike0_3) 0, .at ylike0_28 false, .at ylike0_27 false, .at ylike0_13 true, .at ylike0_14 true, .at ylike0_9 true, .at ylike0_21 false, .is ylike0_2 0, .ge (.a 0) (-9223372036854775808), .le (.a 0) 9223372036854775807]) : LikeQ val := by
  exfalso
  have hb : Holds val (List.drop 9 _) := fun f hf => h f (List.mem_of_mem_drop hf)
  have ha : Holds val (List.take 1 _) := fun f hf => h f (List.mem_of_mem_take hf)
  have hc : Holds val (List.take 2 _) := fun f hf => h f (List.mem_of_mem_take hf)
  simp only [List.take_succ_cons, List.take_zero, List.drop_succ_cons, List.drop_zero, Holds, List.forall_mem_cons, List.not_mem_nil, false_implies, implies_true, and_true, Fact.holds, SB.eval, SX.eval, ylike0_0, ylike0_1, ylike0_2, ylike0_3, ylike0_4, ylike0_5, ylike0_6, ylike0_7, ylike0_8, ylike0_9, ylike0_10, ylike0_11, ylike0_12, ylike0_13, ylike0_14, ylike0_15, ylike0_16, ylike0_17, ylike0_18, ylike0_19, ylike0_20, ylike0_21, ylike0_22, ylike0_23, ylike0_24, ylike0_25, ylike0_26, ylike0_27, ylike0_28, wrapU, wrapI, fdivP, tmodP, beq_iff_eq, beq_eq_false_iff_ne, decide_eq_true_eq, decide_eq_false_iff_not, ne_eq] at h ha hb hc
  simp only [Int.reducePow] at h ha hb hc
  first | (clear h hc; omega) | (clear h; omega) | omega

theorem like0_108 (val : Nat → Int) (h : Holds val [.ne (.wrap .i64 ylike0_3) 0, .at ylike0_28 false, .at ylike0_27 false, .at ylike0_13 true, .at ylike0_14 true, .at ylike0_9 true, .at ylike0_21 false, .is ylike0_2 0, .ge (.a 0) (-9223372036854775808), .le (.a 0) 9223372036854775807]) : LikeQ val := by
  exfalso
  have hb : Holds val (List.drop 7 _) := fun f hf => h f (List.mem_of_mem_drop hf)
  have ha : Holds val (List.take 1 _) := fun f hf => h f (List.mem_of_mem_take hf)
  have hc : Holds val (List.take 2 _) := fun f hf => h f (List.mem_of_mem_take hf)
  simp only [List.take_succ_cons, List.take_zero, List.drop_succ_cons, List.drop_zero, Holds, List.forall_mem_cons, List.not_mem_nil, false_implies, implies_true, and_true, Fact.holds, SB.eval, SX.eval, ylike0_0, ylike0_1, ylike0_2, ylike0_3, ylike0_4, ylike0_5, ylike0_6, ylike0_7, ylike0_8, ylike0_9, ylike0_10, ylike0_11, ylike0_12, ylike0_13, ylike0_14, ylike0_15, ylike0_16, ylike0_17, ylike0_18, ylike0_19, ylike0_20, ylike0_21, ylike0_22, ylike0_23, ylike0_24, ylike0_25, ylike0_26, ylike0_27, ylike0_28, wrapU, wrapI, fdivP, tmodP, beq_iff_eq, beq_eq_false_iff_ne, decide_eq_true_eq, decide_eq_false_iff_not, ne_eq] at h ha hb hc
  simp only [Int.reducePow] at h ha hb hc
  first | (clear h hc; omega) | (clear h; omega) | omega

theorem like0_109 (val : Nat → Int) (h : Holds val [.at ylike0_13 false, .at ylike0_14 true, .at ylike0_9 true, .at ylike0_21 false, .is ylike0_2 0, .ge (.a 0) (-9223372036854775808), .le (.a 0) 9223372036854775807]) : LikeQ val := by
  exfalso
  have hb : Holds val (List.drop 4 _) := fun f hf => h f (List.mem_of_mem_drop hf)
  have ha : Holds val (List.take 1 _) := fun f hf => h f (List.mem_of_mem_take hf)
  have hc : Holds val (List.take 2 _) := fun f hf => h f (List.mem_of_mem_take hf)
  simp only [List.take_succ_cons, List.take_zero, List.drop_succ_cons, List.drop_zero, Holds, List.forall_mem_cons, List.not_mem_nil, false_implies, implies_true, and_true, Fact.holds, SB.eval, SX.eval, ylike0_0, ylike0_1, ylike0_2, ylike0_3, ylike0_4, ylike0_5, ylike0_6, ylike0_7, ylike0_8, ylike0_9, ylike0_10, ylike0_11, ylike0_12, ylike0_13, ylike0_14, ylike0_15, ylike0_16, ylike0_17, ylike0_18, ylike0_19, ylike0_20, ylike0_21, ylike0_22, ylike0_23, ylike0_24, ylike0_25, ylike0_26, ylike0_27, ylike0_28, wrapU, wrapI, fdivP, tmodP, beq_iff_eq, beq_eq_false_iff_ne, decide_eq_true_eq, decide_eq_false_iff_not, ne_eq] at h ha hb hc
  simp only [Int.reducePow] at h ha hb hc
  first | (clear h hc; omega) | (clear h; omega) | omega

theorem like0_110 (val : Nat → Int) (h : Holds val [.is ylike0_24 0, .is ylike0_12 0, .le (.wrap .i64 ylike0_3) 255, .ge (.wrap .i64 ylike0_3) 0, .le (.shr ylike0_4 56) 127, .ge (.shr ylike0_4 56) (-128), .at ylike0_20 true, .at ylike0_25 true, .at ylike0_26 true, .at ylike0_27 true, .at ylike0_13 true, .at ylike0_15 true, .at ylike0_14 false, .at ylike0_9 true, .at ylike0_21 false, .is ylike0_2 0, .ge (.a 0) (-9223372036854775808), .le (.a 0) 9223372036854775807]) : LikeQ val :=
  leafK h (by kernel_rfl)

theorem like0_111 (val : Nat → Int) (h : Holds val [.ne ylike0_24 0, .is ylike0_12 0, .le (.wrap .i64 ylike0_3) 255, .ge (.wrap .i64 ylike0_3) 0, .le (.shr ylike0_4 56) 127, .ge (.shr ylike0_4 56) (-128), .at ylike0_20 true, .at ylike0_25 true, .at ylike0_26 true, .at ylike0_27 true, .at ylike0_13 true, .at ylike0_15 true, .at ylike0_14 false, .at ylike0_9 true, .at ylike0_21 false, .is ylike0_2 0, .ge (.a 0) (-9223372036854775808), .le (.a 0) 9223372036854775807]) : LikeQ val := by
  exfalso
  have hb : Holds val (List.drop 15 _) := fun f hf => h f (List.mem_of_mem_drop hf)
  have ha : Holds val (List.take 1 _) := fun f hf => h f (List.mem_of_mem_take hf)
  have hc : Holds val (List.take 2 _) := fun f hf => h f (List.mem_of_mem_take hf)
  simp only [List.take_succ_cons, List.take_zero, List.drop_succ_cons, List.drop_zero, Holds, List.forall_mem_cons, List.not_mem_nil, false_implies, implies_true, and_true, Fact.holds, SB.eval, SX.eval, ylike0_0, ylike0_1, ylike0_2, ylike0_3, ylike0_4, ylike0_5, ylike0_6, ylike0_7, ylike0_8, ylike0_9, ylike0_10, ylike0_11, ylike0_12, ylike0_13, ylike0_14, ylike0_15, ylike0_16, ylike0_17, ylike0_18, ylike0_19, ylike0_20, ylike0_21, ylike0_22, ylike0_23, ylike0_24, ylike0_25, ylike0_26, ylike0_27, ylike0_28, wrapU, wrapI, fdivP, tmodP, beq_iff_eq, beq_eq_false_iff_ne, decide_eq_true_eq, decide_eq_false_iff_not, ne_eq] at h ha hb hc
  simp only [Int.reducePow] at h ha hb hc
  first | (clear h hc; omega) | (clear h; omega) | omega

theorem like0_112 (val : Nat → Int) (h : Holds val [.ne ylike0_12 0, .le (.wrap .i64 ylike0_3) 255, .ge (.wrap .i64 ylike0_3) 0, .le (.shr ylike0_4 56) 127, .ge (.shr ylike0_4 56) (-128), .at ylike0_20 true, .at ylike0_25 true, .at ylike0_26 true, .at ylike0_27 true, .at ylike0_13 true, .at ylike0_15 true, .at ylike0_14 false, .at ylike0_9 true, .at ylike0_21 false, .is ylike0_2 0, .ge (.a 0) (-9223372036854775808), .le (.a 0) 9223372036854775807]) : LikeQ val := by
  exfalso
  have hb : Holds val (List.drop 14 _) := fun f hf => h f (List.mem_of_mem_drop hf)
  have ha : Holds val (List.take 1 _) := fun f hf => h f (List.mem_of_mem_take hf)
  have hc : Holds val (List.take 2 _) := fun f hf => h f (List.mem_of_mem_take hf)
  simp only [List.take_succ_cons, List.take_zero, List.drop_succ_cons, List.drop_zero, Holds, List.forall_mem_cons, List.not_mem_nil, false_implies, implies_true, and_true, Fact.holds, SB.eval, SX.eval, ylike0_0, ylike0_1, ylike0_2, ylike0_3, ylike0_4, ylike0_5, ylike0_6, ylike0_7, ylike0_8, ylike0_9, ylike0_10, ylike0_11, ylike0_12, ylike0_13, ylike0_14, ylike0_15, ylike0_16, ylike0_17, ylike0_18, ylike0_19, ylike0_20, ylike0_21, ylike0_22, ylike0_23, ylike0_24, ylike0_25, ylike0_26, ylike0_27, ylike0_28, wrapU, wrapI, fdivP, tmodP, beq_iff_eq, beq_eq_false_iff_ne, decide_eq_true_eq, decide_eq_false_iff_not, ne_eq] at h ha hb hc
  simp only [Int.reducePow] at h ha hb hc
  first | (clear h hc; omega) | (clear h; omega) | omega

theorem like0_113 (val : Nat → Int) (h : Holds val [.ge (.wrap .i64 ylike0_3) 256, .ge (.wrap .i64 ylike0_3) 0, .le (.shr ylike0_4 56) 127, .ge (.shr ylike0_4 56) (-128), .at ylike0_20 true, .at ylike0_25 true, .at ylike0_26 true, .at ylike0_27 true, .at ylike0_13 true, .at ylike0_15 true, .at ylike0_14 false, .at ylike0_9 true, .at ylike0_21 false, .is ylike0_2 0, .ge (.a 0) (-9223372036854775808), .le (.a 0) 9223372036854775807]) : LikeQ val := by
  exfalso
  have hb : Holds val (List.drop 13 _) := fun f hf => h f (List.mem_of_mem_drop hf)
  have ha : Holds val (List.take 1 _) := fun f hf => h f (List.mem_of_mem_take hf)
  have hc : Holds val (List.take 2 _) := fun f hf => h f (List.mem_of_mem_take hf)
  simp only [List.take_succ_cons, List.take_zero, List.drop_succ_cons, List.drop_zero, Holds, List.forall_mem_cons, List.not_mem_nil, false_implies, implies_true, and_true, Fact.holds, SB.eval, SX.eval, ylike0_0, ylike0_1, ylike0_2, ylike0_3, ylike0_4, ylike0_5, ylike0_6, ylike0_7, ylike0_8, ylike0_9, ylike0_10, ylike0_11, ylike0_12, ylike0_13, ylike0_14, ylike0_15, ylike0_16, ylike0_17, ylike0_18, ylike0_19, ylike0_20, ylike0_21, ylike0_22, ylike0_23, ylike0_24, ylike0_25, ylike0_26, ylike0_27, ylike0_28, wrapU, wrapI, fdivP, tmodP, beq_iff_eq, beq_eq_false_iff_ne, decide_eq_true_eq, decide_eq_false_iff_not, ne_eq] at h ha hb hc
  simp only [Int.reducePow] at h ha hb hc
  first | (clear h hc; omega) | (clear h; omega) | omega

theorem like0_114 (val : Nat → Int) (h : Holds val [.le (.wrap .i64 ylike0_3) (-1), .le (.shr ylike0_4 56) 127, .ge (.shr ylike0_4 56) (-128), .at ylike0_20 true, .at ylike0_25 true, .at ylike0_26 true, .at ylike0_27 true, .at ylike0_13 true, .at ylike0_15 true, .at ylike0_14 false, .at ylike0_9 true, .at ylike0_21 false, .is ylike0_2 0, .ge (.a 0) (-9223372036854775808), .le (.a 0) 9223372036854775807]) : LikeQ val := by
  exfalso
  have hb : Holds val (List.drop 12 _) := fun f hf => h f (List.mem_of_mem_drop hf)
  have ha : Holds val (List.take 1 _) := fun f hf => h f (List.mem_of_mem_take hf)
  have hc : Holds val (List.take 2 _) := fun f hf => h f (List.mem_of_mem_take hf)
  simp only [List.take_succ_cons, List.take_zero, List.drop_succ_cons, List.drop_zero, Holds, List.forall_mem_cons, List.not_mem_nil, false_implies, implies_true, and_true, Fact.holds, SB.eval, SX.eval, ylike0_0, ylike0_1, ylike0_2, ylike0_3, ylike0_4, ylike0_5, ylike0_6, ylike0_7, ylike0_8, ylike0_9, ylike0_10, ylike0_11, ylike0_12, ylike0_13, ylike0_14, ylike0_15, ylike0_16, ylike0_17, ylike0_18, ylike0_19, ylike0_20, ylike0_21, ylike0_22, ylike0_23, ylike0_24, ylike0_25, ylike0_26, ylike0_27, ylike0_28, wrapU, wrapI, fdivP, tmodP, beq_iff_eq, beq_eq_false_iff_ne, decide_eq_true_eq, decide_eq_false_iff_not, ne_eq] at h ha hb hc
  simp only [Int.reducePow] at h ha hb hc
  first | (clear h hc; omega) | (clear h; omega) | omega

theorem like0_115 (val : Nat → Int) (h : Holds val [.ge (.shr ylike0_4 56) 128, .ge (.shr ylike0_4 56) (-128), .at ylike0_20 true, .at ylike0_25 true, .at ylike0_26 true, .at ylike0_27 true, .at ylike0_13 true, .at ylike0_15 true, .at ylike0_14 false, .at ylike0_9 true, .at ylike0_21 false, .is ylike0_2 0, .ge (.a 0) (-9223372036854775808), .le (.a 0) 9223372036854775807]) : LikeQ val := by
  exfalso
  have hb : Holds val (List.drop 11 _) := fun f hf => h f (List.mem_of_mem_drop hf)
  have ha : Holds val (List.take 1 _) := fun f hf => h f (List.mem_of_mem_take hf)
  have hc : Holds val (List.take 2 _) := fun f hf => h f (List.mem_of_mem_take hf)
  simp only [List.take_succ_cons, List.take_zero, List.drop_succ_cons, List.drop_zero, Holds, List.forall_mem_cons, List.not_mem_nil, false_implies, implies_true, and_true, Fact.holds, SB.eval, SX.eval, ylike0_0, ylike0_1, ylike0_2, ylike0_3, ylike0_4, ylike0_5, ylike0_6, ylike0_7, ylike0_8, ylike0_9, ylike0_10, ylike0_11, ylike0_12, ylike0_13, ylike0_14, ylike0_15, ylike0_16, ylike0_17, ylike0_18, ylike0_19, ylike0_20, ylike0_21, ylike0_22, ylike0_23, ylike0_24, ylike0_25, ylike0_26, ylike0_27, ylike0_28, wrapU, wrapI, fdivP, tmodP, beq_iff_eq, beq_eq_false_iff_ne, decide_eq_true_eq, decide_eq_false_iff_not, ne_eq] at h ha hb hc
  simp only [Int.reducePow] at h ha hb hc
  first | (clear h hc; omega) | (clear h; omega) | omega

theorem like0_116 (val : Nat → Int) (h : Holds val [.le (.shr ylike0_4 56) (-129), .at ylike0_20 true, .at ylike0_25 true, .at ylike0_26 true, .at ylike0_27 true, .at ylike0_13 true, .at ylike0_15 true, .at ylike0_14 false, .at ylike0_9 true, .at ylike0_21 false, .is ylike0_2 0, .ge (.a 0) (-9223372036854775808), .le (.a 0) 9223372036854775807]) : LikeQ val := by
  exfalso
  have hb : Holds val (List.drop 10 _) := fun f hf => h f (List.mem_of_mem_drop hf)
  have ha : Holds val (List.take 1 _) := fun f hf => h f (List.mem_of_mem_take hf)
  have hc : Holds val (List.take 2 _) := fun f hf => h f (List.mem_of_mem_take hf)
  simp only [List.take_succ_cons, List.take_zero, List.drop_succ_cons, List.drop_zero, Holds, List.forall_mem_cons, List.not_mem_nil, false_implies, implies_true, and_true, Fact.holds, SB.eval, SX.eval, ylike0_0, ylike0_1, ylike0_2, ylike0_3, ylike0_4, ylike0_5, ylike0_6, ylike0_7, ylike0_8, ylike0_9, ylike0_10, ylike0_11, ylike0_12, ylike0_13, ylike0_14, ylike0_15, ylike0_16, ylike0_17, ylike0_18, ylike0_19, ylike0_20, ylike0_21, ylike0_22, ylike0_23, ylike0_24, ylike0_25, ylike0_26, ylike0_27, ylike0_28, wrapU, wrapI, fdivP, tmodP, beq_iff_eq, beq_eq_false_iff_ne, decide_eq_true_eq, decide_eq_false_iff_not, ne_eq] at h ha hb hc
  simp only [Int.reducePow] at h ha hb hc
  first | (clear h hc; omega) | (clear h; omega) | omega

theorem like0_117 (val : Nat → Int) (h : Holds val [.at ylike0_20 false, .at ylike0_25 true, .at ylike0_26 true, .at ylike0_27 true, .at ylike0_13 true, .at ylike0_15 true, .at ylike0_14 false, .at ylike0_9 true, .at ylike0_21 false, .is ylike0_2 0, .ge (.a 0) (-9223372036854775808), .le (.a 0) 9223372036854775807]) : LikeQ val := by
  exfalso
  have hb : Holds val (List.drop 9 _) := fun f hf => h f (List.mem_of_mem_drop hf)
  have ha : Holds val (List.take 1 _) := fun f hf => h f (List.mem_of_mem_take hf)
  have hc : Holds val (List.take 2 _) := fun f hf => h f (List.mem_of_mem_take hf)
  simp only [List.take_succ_cons, List.take_zero, List.drop_succ_cons, List.drop_zero, Holds, List.forall_mem_cons, List.not_mem_nil, false_implies, implies_true, and_true, Fact.holds, SB.eval, SX.eval, ylike0_0, ylike0_1, ylike0_2, ylike0_3, ylike0_4, ylike0_5, ylike0_6, ylike0_7, ylike0_8, ylike0_9, ylike0_10, ylike0_11, ylike0_12, ylike0_13, ylike0_14, ylike0_15, ylike0_16, ylike0_17, ylike0_18, ylike0_19, ylike0_20, ylike0_21, ylike0_22, ylike0_23, ylike0_24, ylike0_25, ylike0_26, ylike0_27, ylike0_28, wrapU, wrapI, fdivP, tmodP, beq_iff_eq, beq_eq_false_iff_ne, decide_eq_true_eq, decide_eq_false_iff_not, ne_eq] at h ha hb hc
  simp only [Int.reducePow] at h ha hb hc
  first | (clear h hc; omega) | (clear h; omega) | omega

theorem like0_118 (val : Nat → Int) (h : Holds val [.at ylike0_25 false, .at ylike0_26 true, .at ylike0_27 true, .at ylike0_13 true, .at ylike0_15 true, .at ylike0_14 false, .at ylike0_9 true, .at ylike0_21 false, .is ylike0_2 0, .ge (.a 0) (-9223372036854775808), .le (.a 0) 9223372036854775807]) : LikeQ val := by
  exfalso
  have hb : Holds val (List.drop 8 _) := fun f hf => h f (List.mem_of_mem_drop hf)
  have ha : Holds val (List.take 1 _) := fun f hf => h f (List.mem_of_mem_take hf)
  have hc : Holds val (List.take 2 _) := fun f hf => h f (List.mem_of_mem_take hf)
  simp only [List.take_succ_cons, List.take_zero, List.drop_succ_cons, List.drop_zero, Holds, List.forall_mem_cons, List.not_mem_nil, false_implies, implies_true, and_true, Fact.holds, SB.eval, SX.eval, ylike0_0, ylike0_1, ylike0_2, ylike0_3, ylike0_4, ylike0_5, ylike0_6, ylike0_7, ylike0_8, ylike0_9, ylike0_10, ylike0_11, ylike0_12, ylike0_13, ylike0_14, ylike0_15, ylike0_16, ylike0_17, ylike0_18, ylike0_19, ylike0_20, ylike0_21, ylike0_22, ylike0_23, ylike0_24, ylike0_25, ylike0_26, ylike0_27, ylike0_28, wrapU, wrapI, fdivP, tmodP, beq_iff_eq, beq_eq_false_iff_ne, decide_eq_true_eq, decide_eq_false_iff_not, ne_eq] at h ha hb hc
  simp only [Int.reducePow] at h ha hb hc
  first | (clear h hc; omega) | (clear h; omega) | omega

theorem like0_119 (val : Nat → Int) (h : Holds val [.at ylike0_26 false, .at ylike0_27 true, .at ylike0_13 true, .at ylike0_15 true, .at ylike0_14 false, .at ylike0_9 true, .at ylike0_21 false, .is ylike0_2 0, .ge (.a 0) (-9223372036854775808), .le (.a 0) 9223372036854775807]) : LikeQ val := by
  exfalso
  have hb : Holds val (List.drop 7 _) := fun f hf => h f (List.mem_of_mem_drop hf)
  have ha : Holds val (List.take 1 _) := fun f hf => h f (List.mem_of_mem_take hf)
  have hc : Holds val (List.take 2 _) := fun f hf => h f (List.mem_of_mem_take hf)
  simp only [List.take_succ_cons, List.take_zero, List.drop_succ_cons, List.drop_zero, Holds, List.forall_mem_cons, List.not_mem_nil, false_implies, implies_true, and_true, Fact.holds, SB.eval, SX.eval, ylike0_0, ylike0_1, ylike0_2, ylike0_3, ylike0_4, ylike0_5, ylike0_6, ylike0_7, ylike0_8, ylike0_9, ylike0_10, ylike0_11, ylike0_12, ylike0_13, ylike0_14, ylike0_15, ylike0_16, ylike0_17, ylike0_18, ylike0_19, ylike0_20, ylike0_21, ylike0_22, ylike0_23, ylike0_24, ylike0_25, ylike0_26, ylike0_27, ylike0_28, wrapU, wrapI, fdivP, tmodP, beq_iff_eq, beq_eq_false_iff_ne, decide_eq_true_eq, decide_eq_false_iff_not, ne_eq] at h ha hb hc
  simp only [Int.reducePow] at h ha hb hc
  first | (clear h hc; omega) | (clear h; omega) | omega

theorem like0_120 (val : Nat → Int) (h : Holds val [.is ylike0_24 0, .is ylike0_12 0, .le (.wrap .i64 ylike0_3) 255, .ge (.wrap .i64 ylike0_3) 0, .le (.shr ylike0_4 56) 127, .ge (.shr ylike0_4 56) (-128), .at ylike0_20 true, .at ylike0_25 true, .at ylike0_26 true, .at ylike0_28 true, .at ylike0_27 false, .at ylike0_13 true, .at ylike0_15 true, .at ylike0_14 false, .at ylike0_9 true, .at ylike0_21 false, .is ylike0_2 0, .ge (.a 0) (-9223372036854775808), .le (.a 0) 9223372036854775807]) : LikeQ val :=
  leafK h (by kernel_rfl)

theorem like0_121 (val : Nat → Int) (h : Holds val [.ne ylike0_24 0, .is ylike0_12 0, .le (.wrap .i64 ylike0_3) 255, .ge (.wrap .i64 ylike0_3) 0, .le (.shr ylike0_4 56) 127, .ge (.shr ylike0_4 56) (-128), .at ylike0_20 true, .at ylike0_25 true, .at ylike0_26 true, .at ylike0_28 true, .at ylike0_27 false, .at ylike0_13 true, .at ylike0_15 true, .at ylike0_14 false, .at ylike0_9 true, .at ylike0_21 false, .is ylike0_2 0, .ge (.a 0) (-9223372036854775808), .le (.a 0) 9223372036854775807]) : LikeQ val := by
  exfalso
  have hb : Holds val (List.drop 16 _) := fun f hf => h f (List.mem_of_mem_drop hf)
  have ha : Holds val (List.take 1 _) := fun f hf => h f (List.mem_of_mem_take hf)
  have hc : Holds val (List.take 2 _) := fun f hf => h f (List.mem_of_mem_take hf)
  simp only [List.take_succ_cons, List.take_zero, List.drop_succ_cons, List.drop_zero, Holds, List.forall_mem_cons, List.not_mem_nil, false_implies, implies_true, and_true, Fact.holds, SB.eval, SX.eval, ylike0_0, ylike0_1, ylike0_2, ylike0_3, ylike0_4, ylike0_5, ylike0_6, ylike0_7, ylike0_8, ylike0_9, ylike0_10, ylike0_11, ylike0_12, ylike0_13, ylike0_14, ylike0_15, ylike0_16, ylike0_17, ylike0_18, ylike0_19, ylike0_20, ylike0_21, ylike0_22, ylike0_23, ylike0_24, ylike0_25, ylike0_26, ylike0_27, ylike0_28, wrapU, wrapI, fdivP, tmodP, beq_iff_eq, beq_eq_false_iff_ne, decide_eq_true_eq, decide_eq_false_iff_not, ne_eq] at h ha hb hc
  simp only [Int.reducePow] at h ha hb hc
  first | (clear h hc; omega) | (clear h; omega) | omega

theorem like0_122 (val : Nat → Int) (h : Holds val [.ne ylike0_12 0, .le (.wrap .i64 ylike0_3) 255, .ge (.wrap .i64 ylike0_3) 0, .le (.shr ylike0_4 56) 127, .ge (.shr ylike0_4 56) (-128), .at ylike0_20 true, .at ylike0_25 true, .at ylike0_26 true, .at ylike0_28 true, .at ylike0_27 false, .at ylike0_13 true, .at ylike0_15 true, .at ylike0_14 false, .at ylike0_9 true, .at ylike0_21 false, .is ylike0_2 0, .ge (.a 0) (-9223372036854775808), .le (.a 0) 9223372036854775807]) : LikeQ val := by
  exfalso
  have hb : Holds val (List.drop 15 _) := fun f hf => h f (List.mem_of_mem_drop hf)
  have ha : Holds val (List.take 1 _) := fun f hf => h f (List.mem_of_mem_take hf)
  have hc : Holds val (List.take 2 _) := fun f hf => h f (List.mem_of_mem_take hf)
  simp only [List.take_succ_cons, List.take_zero, List.drop_succ_cons, List.drop_zero, Holds, List.forall_mem_cons, List.not_mem_nil, false_implies, implies_true, and_true, Fact.holds, SB.eval, SX.eval, ylike0_0, ylike0_1, ylike0_2, ylike0_3, ylike0_4, ylike0_5, ylike0_6, ylike0_7, ylike0_8, ylike0_9, ylike0_10, ylike0_11, ylike0_12, ylike0_13, ylike0_14, ylike0_15, ylike0_16, ylike0_17, ylike0_18, ylike0_19, ylike0_20, ylike0_21, ylike0_22, ylike0_23, ylike0_24, ylike0_25, ylike0_26, ylike0_27, ylike0_28, wrapU, wrapI, fdivP, tmodP, beq_iff_eq, beq_eq_false_iff_ne, decide_eq_true_eq, decide_eq_false_iff_not, ne_eq] at h ha hb hc
  simp only [Int.reducePow] at h ha hb hc
  first | (clear h hc; omega) | (clear h; omega) | omega

theorem like0_123 (val : Nat → Int) (h : Holds val [.ge (.wrap .i64 ylike0_3) 256, .ge (.wrap .i64 ylike0_3) 0, .le (.shr ylike0_4 56) 127, .ge (.shr ylike0_4 56) (-128), .at ylike0_20 true, .at ylike0_25 true, .at ylike0_26 true, .at ylike0_28 true, .at ylike0_27 false, .at ylike0_13 true, .at ylike0_15 true, .at ylike0_14 false, .at ylike0_9 true, .at ylike0_21 false, .is ylike0_2 0, .ge (.a 0) (-9223372036854775808), .le (.a 0) 9223372036854775807]) : LikeQ val := by
  exfalso
  have hb : Holds val (List.drop 14 _) := fun f hf => h f (List.mem_of_mem_drop hf)
  have ha : Holds val (List.take 1 _) := fun f hf => h f (List.mem_of_mem_take hf)
  have hc : Holds val (List.take 2 _) := fun f hf => h f (List.mem_of_mem_take hf)
  simp only [List.take_succ_cons, List.take_zero, List.drop_succ_cons, List.drop_zero, Holds, List.forall_mem_cons, List.not_mem_nil, false_implies, implies_true, and_true, Fact.holds, SB.eval, SX.eval, ylike0_0, ylike0_1, ylike0_2, ylike0_3, ylike0_4, ylike0_5, ylike0_6, ylike0_7, ylike0_8, ylike0_9, ylike0_10, ylike0_11, ylike0_12, ylike0_13, ylike0_14, ylike0_15, ylike0_16, ylike0_17, ylike0_18, ylike0_19, ylike0_20, ylike0_21, ylike0_22, ylike0_23, ylike0_24, ylike0_25, ylike0_26, ylike0_27, ylike0_28, wrapU, wrapI, fdivP, tmodP, beq_iff_eq, beq_eq_false_iff_ne, decide_eq_true_eq, decide_eq_false_iff_not, ne_eq] at h ha hb hc
  simp only [Int.reducePow] at h ha hb hc
  first | (clear h hc; omega) | (clear h; omega) | omega

theorem like0_124 (val : Nat → Int) (h : Holds val [.le (.wrap .i64 ylike0_3) (-1), .le (.shr ylike0_4 56) 127, .ge (.shr ylike0_4 56) (-128), .at ylike0_20 true, .at ylike0_25 true, .at ylike0_26 true, .at ylike0_28 true, .at ylike0_27 false, .at ylike0_13 true, .at ylike0_15 true, .at ylike0_14 false, .at ylike0_9 true, .at ylike0_21 false, .is ylike0_2 0, .ge (.a 0) (-9223372036854775808), .le (.a 0) 9223372036854775807]) : LikeQ val := by
  exfalso
  have hb : Holds val (List.drop 13 _) := fun f hf => h f (List.mem_of_mem_drop hf)
  have ha : Holds val (List.take 1 _) := fun f hf => h f (List.mem_of_mem_take hf)
  have hc : Holds val (List.take 2 _) := fun f hf => h f (List.mem_of_mem_take hf)
  simp only [List.take_succ_cons, List.take_zero, List.drop_succ_cons, List.drop_zero, Holds, List.forall_mem_cons, List.not_mem_nil, false_implies, implies_true, and_true, Fact.holds, SB.eval, SX.eval, ylike0_0, ylike0_1, ylike0_2, ylike0_3, ylike0_4, ylike0_5, ylike0_6, ylike0_7, ylike0_8, ylike0_9, ylike0_10, ylike0_11, ylike0_12, ylike0_13, ylike0_14, ylike0_15, ylike0_16, ylike0_17, ylike0_18, ylike0_19, ylike0_20, ylike0_21, ylike0_22, ylike0_23, ylike0_24, ylike0_25, ylike0_26, ylike0_27, ylike0_28, wrapU, wrapI, fdivP, tmodP, beq_iff_eq, beq_eq_false_iff_ne, decide_eq_true_eq, decide_eq_false_iff_not, ne_eq] at h ha hb hc
  simp only [Int.reducePow] at h ha hb hc
  first | (clear h hc; omega) | (clear h; omega) | omega

theorem like0_125 (val : Nat → Int) (h : Holds val [.ge (.shr ylike0_4 56) 128, .ge (.shr ylike0_4 56) (-128), .at ylike0_20 true, .at ylike0_25 true, .at ylike0_26 true, .at ylike0_28 true, .at ylike0_27 false, .at ylike0_13 true, .at ylike0_15 true, .at ylike0_14 false, .at ylike0_9 true, .at ylike0_21 false, .is ylike0_2 0, .ge (.a 0) (-9223372036854775808), .le (.a 0) 9223372036854775807]) : LikeQ val := by
  exfalso
  have hb : Holds val (List.drop 12 _) := fun f hf => h f (List.mem_of_mem_drop hf)
  have ha : Holds val (List.take 1 _) := fun f hf => h f (List.mem_of_mem_take hf)
  have hc : Holds val (List.take 2 _) := fun f hf => h f (List.mem_of_mem_take hf)
  simp only [List.take_succ_cons, List.take_zero, List.drop_succ_cons, List.drop_zero, Holds, List.forall_mem_cons, List.not_mem_nil, false_implies, implies_true, and_true, Fact.holds, SB.eval, SX.eval, ylike0_0, ylike0_1, ylike0_2, ylike0_3, ylike0_4, ylike0_5, ylike0_6, ylike0_7, ylike0_8, ylike0_9, ylike0_10, ylike0_11, ylike0_12, ylike0_13, ylike0_14, ylike0_15, ylike0_16, ylike0_17, ylike0_18, ylike0_19, ylike0_20, ylike0_21, ylike0_22, ylike0_23, ylike0_24, ylike0_25, ylike0_26, ylike0_27, ylike0_28, wrapU, wrapI, fdivP, tmodP, beq_iff_eq, beq_eq_false_iff_ne, decide_eq_true_eq, decide_eq_false_iff_not, ne_eq] at h ha hb hc
  simp only [Int.reducePow] at h ha hb hc
  first | (clear h hc; omega) | (clear h; omega) | omega

theorem like0_126 (val : Nat → Int) (h : Holds val [.le (.shr ylike0_4 56) (-129), .at ylike0_20 true, .at ylike0_25 true, .at ylike0_26 true, .at ylike0_28 true, .at ylike0_27 false, .at ylike0_13 true, .at ylike0_15 true, .at ylike0_14 false, .at ylike0_9 true, .at ylike0_21 false, .is ylike0_2 0, .ge (.a 0) (-9223372036854775808), .le (.a 0) 9223372036854775807]) : LikeQ val := by
  exfalso
  have hb : Holds val (List.drop 11 _) := fun f hf => h f (List.mem_of_mem_drop hf)
  have ha : Holds val (List.take 1 _) := fun f hf => h f (List.mem_of_mem_take hf)
  have hc : Holds val (List.take 2 _) := fun f hf => h f (List.mem_of_mem_take hf)
  simp only [List.take_succ_cons, List.take_zero, List.drop_succ_cons, List.drop_zero, Holds, List.forall_mem_cons, List.not_mem_nil, false_implies, implies_true, and_true, Fact.holds, SB.eval, SX.eval, ylike0_0, ylike0_1, ylike0_2, ylike0_3, ylike0_4, ylike0_5, ylike0_6, ylike0_7, ylike0_8, ylike0_9, ylike0_10, ylike0_11, ylike0_12, ylike0_13, ylike0_14, ylike0_15, ylike0_16, ylike0_17, ylike0_18, ylike0_19, ylike0_20, ylike0_21, ylike0_22, ylike0_23, ylike0_24, ylike0_25, ylike0_26, ylike0_27, ylike0_28, wrapU, wrapI, fdivP, tmodP, beq_iff_eq, beq_eq_false_iff_ne, decide_eq_true_eq, decide_eq_false_iff_not, ne_eq] at h ha hb hc
  simp only [Int.reducePow] at h ha hb hc
  first | (clear h hc; omega) | (clear h; omega) | omega

theorem like0_127 (val : Nat → Int) (h : Holds val [.at ylike0_20 false, .at ylike0_25 true, .at ylike0_26 true, .at ylike0_28 true, .at ylike0_27 false, .at ylike0_13 true, .at ylike0_15 true, .at ylike0_14 false, .at ylike0_9 true, .at ylike0_21 false, .is ylike0_2 0, .ge (.a 0) (-9223372036854775808), .le (.a 0) 9223372036854775807]) : LikeQ val := by
  exfalso
  have hb : Holds val (List.drop 10 _) := fun f hf => h f (List.mem_of_mem_drop hf)
  have ha : Holds val (List.take 1 _) := fun f hf => h f (List.mem_of_mem_take hf)
  have hc : Holds val (List.take 2 _) := fun f hf => h f (List.mem_of_mem_take hf)
  simp only [List.take_succ_cons, List.take_zero, List.drop_succ_cons, List.drop_zero, Holds, List.forall_mem_cons, List.not_mem_nil, false_implies, implies_true, and_true, Fact.holds, SB.eval, SX.eval, ylike0_0, ylike0_1, ylike0_2, ylike0_3, ylike0_4, ylike0_5, ylike0_6, ylike0_7, ylike0_8, ylike0_9, ylike0_10, ylike0_11, ylike0_12, ylike0_13, ylike0_14, ylike0_15, ylike0_16, ylike0_17, ylike0_18, ylike0_19, ylike0_20, ylike0_21, ylike0_22, ylike0_23, ylike0_24, ylike0_25, ylike0_26, ylike0_27, ylike0_28, wrapU, wrapI, fdivP, tmodP, beq_iff_eq, beq_eq_false_iff_ne, decide_eq_true_eq, decide_eq_false_iff_not, ne_eq] at h ha hb hc
  simp only [Int.reducePow] at h ha hb hc
  first | (clear h hc; omega) | (clear h; omega) | omega

theorem like0_128 (val : Nat → Int) (h : Holds val [.at ylike0_25 false, .at ylike0_26 true, .at ylike0_28 true, .at ylike0_27 false, .at ylike0_13 true, .at ylike0_15 true, .at ylike0_14 false, .at ylike0_9 true, .at ylike0_21 false, .is ylike0_2 0, .ge (.a 0) (-9223372036854775808), .le (.a 0) 9223372036854775807]) : LikeQ val := by
  exfalso
  have hb : Holds val (List.drop 9 _) := fun f hf => h f (List.mem_of_mem_drop hf)
  have ha : Holds val (List.take 1 _) := fun f hf => h f (List.mem_of_mem_take hf)
  have hc : Holds val (List.take 2 _) := fun f hf => h f (List.mem_of_mem_take hf)
  simp only [List.take_succ_cons, List.take_zero, List.drop_succ_cons, List.drop_zero, Holds, List.forall_mem_cons, List.not_mem_nil, false_implies, implies_true, and_true, Fact.holds, SB.eval, SX.eval, ylike0_0, ylike0_1, ylike0_2, ylike0_3, ylike0_4, ylike0_5, ylike0_6, ylike0_7, ylike0_8, ylike0_9, ylike0_10, ylike0_11, ylike0_12, ylike0_13, ylike0_14, ylike0_15, ylike0_16, ylike0_17, ylike0_18, ylike0_19, ylike0_20, ylike0_21, ylike0_22, ylike0_23, ylike0_24, ylike0_25, ylike0_26, ylike0_27, ylike0_28, wrapU, wrapI, fdivP, tmodP, beq_iff_eq, beq_eq_false_iff_ne, decide_eq_true_eq, decide_eq_false_iff_not, ne_eq] at h ha hb hc
  simp only [Int.reducePow] at h ha hb hc
  first | (clear h hc; omega) | (clear h; omega) | omega

theorem like0_129 (val : Nat → Int) (h : Holds val [.at ylike0_26 false, .at ylike0_28 true, .at ylike0_27 false, .at ylike0_13 true, .at ylike0_15 true, .at ylike0_14 false, .at ylike0_9 true, .at ylike0_21 false, .is ylike0_2 0, .ge (.a 0) (-9223372036854775808), .le (.a 0) 9223372036854775807]) : LikeQ val := by
  exfalso
  have hb : Holds val (List.drop 8 _) := fun f hf => h f (List.mem_of_mem_drop hf)
  have ha : Holds val (List.take 1 _) := fun f hf => h f (List.mem_of_mem_take hf)
  have hc : Holds val (List.take 2 _) := fun f hf => h f (List.mem_of_mem_take hf)
  simp only [List.take_succ_cons, List.take_zero, List.drop_succ_cons, List.drop_zero, Holds, List.forall_mem_cons, List.not_mem_nil, false_implies, implies_true, and_true, Fact.holds, SB.eval, SX.eval, ylike0_0, ylike0_1, ylike0_2, ylike0_3, ylike0_4, ylike0_5, ylike0_6, ylike0_7, ylike0_8, ylike0_9, ylike0_10, ylike0_11, ylike0_12, ylike0_13, ylike0_14, ylike0_15, ylike0_16, ylike0_17, ylike0_18, ylike0_19, ylike0_20, ylike0_21, ylike0_22, ylike0_23, ylike0_24, ylike0_25, ylike0_26, ylike0_27, ylike0_28, wrapU, wrapI, fdivP, tmodP, beq_iff_eq, beq_eq_false_iff_ne, decide_eq_true_eq, decide_eq_false_iff_not, ne_eq] at h ha hb hc
  simp only [Int.reducePow] at h ha hb hc
  first | (clear h hc; omega) | (clear h; omega) | omega

theorem like0_130 (val : Nat → Int) (h : Holds val [.is (.a 0) 0, .is (.wrap .i64 ylike0_3) 0, .at ylike0_28 false, .at ylike0_27 false, .at ylike0_13 true, .at ylike0_15 true, .at ylike0_14 false, .at ylike0_9 true, .at ylike0_21 false, .is ylike0_2 0, .ge (.a 0) (-9223372036854775808), .le (.a 0) 9223372036854775807]) : LikeQ val :=
  leafK h (by kernel_rfl)

theorem like0_131 (val : Nat → Int) (h : Holds val [.le (.a 0) (-129), .is (.shr ylike0_4 56) 0, .is ylike0_7 0, .ne (.a 0) 0, .is (.wrap .i64 ylike0_3) 0, .at ylike0_28 false, .at ylike0_27 false, .at ylike0_13 true, .at ylike0_15 true, .at ylike0_14 false, .at ylike0_9 true, .at ylike0_21 false, .is ylike0_2 0, .ge (.a 0) (-9223372036854775808), .le (.a 0) 9223372036854775807]) : LikeQ val :=
  leafK h (by kernel_rfl)

theorem like0_132 (val : Nat → Int) (h : Holds val [.ge (.a 0) 256, .ge (.a 0) (-128), .is (.shr ylike0_4 56) 0, .is ylike0_7 0, .ne (.a 0) 0, .is (.wrap .i64 ylike0_3) 0, .at ylike0_28 false, .at ylike0_27 false, .at ylike0_13 true, .at ylike0_15 true, .at ylike0_14 false, .at ylike0_9 true, .at ylike0_21 false, .is ylike0_2 0, .ge (.a 0) (-9223372036854775808), .le (.a 0) 9223372036854775807]) : LikeQ val :=
  leafK h (by kernel_rfl)

theorem like0_133 (val : Nat → Int) (h : Holds val [.le (.a 0) 255, .ge (.a 0) (-128), .is (.shr ylike0_4 56) 0, .is ylike0_7 0, .ne (.a 0) 0, .is (.wrap .i64 ylike0_3) 0, .at ylike0_28 false, .at ylike0_27 false, .at ylike0_13 true, .at ylike0_15 true, .at ylike0_14 false, .at ylike0_9 true, .at ylike0_21 false, .is ylike0_2 0, .ge (.a 0) (-9223372036854775808), .le (.a 0) 9223372036854775807]) : LikeQ val := by
  exfalso
  have hb : Holds val (List.drop 13 _) := fun f hf => h f (List.mem_of_mem_drop hf)
  have ha : Holds val (List.take 1 _) := fun f hf => h f (List.mem_of_mem_take hf)
  have hc : Holds val (List.take 2 _) := fun f hf => h f (List.mem_of_mem_take hf)
  simp only [List.take_succ_cons, List.take_zero, List.drop_succ_cons, List.drop_zero, Holds, List.forall_mem_cons, List.not_mem_nil, false_implies, implies_true, and_true, Fact.holds, SB.eval, SX.eval, ylike0_0, ylike0_1, ylike0_2, ylike0_3, ylike0_4, ylike0_5, ylike0_6, ylike0_7, ylike0_8, ylike0_9, ylike0_10, ylike0_11, ylike0_12, ylike0_13, ylike0_14, ylike0_15, ylike0_16, ylike0_17, ylike0_18, ylike0_19, ylike0_20, ylike0_21, ylike0_22, ylike0_23, ylike0_24, ylike0_25, ylike0_26, ylike0_27, ylike0_28, wrapU, wrapI, fdivP, tmodP, beq_iff_eq, beq_eq_false_iff_ne, decide_eq_true_eq, decide_eq_false_iff_not, ne_eq] at h ha hb hc
  simp only [Int.reducePow] at h ha hb hc
  first | (clear h hc; omega) | (clear h; omega) | omega

theorem like0_134 (val : Nat → Int) (h : Holds val [.ne (.shr ylike0_4 56) 0, .is ylike0_7 0, .ne (.a 0) 0, .is (.wrap .i64 ylike0_3) 0, .at ylike0_28 false, .at ylike0_27 false, .at ylike0_13 true, .at ylike0_15 true, .at ylike0_14 false, .at ylike0_9 true, .at ylike0_21 false, .is ylike0_2 0, .ge (.a 0) (-9223372036854775808), .le (.a 0) 9223372036854775807]) : LikeQ val := by
  exfalso
  have hb : Holds val (List.drop 11 _) := fun f hf => h f (List.mem_of_mem_drop hf)
  have ha : Holds val (List.take 1 _) := fun f hf => h f (List.mem_of_mem_take hf)
  have hc : Holds val (List.take 2 _) := fun f hf => h f (List.mem_of_mem_take hf)
  simp only [List.take_succ_cons, List.take_zero, List.drop_succ_cons, List.drop_zero, Holds, List.forall_mem_cons, List.not_mem_nil, false_implies, implies_true, and_true, Fact.holds, SB.eval, SX.eval, ylike0_0, ylike0_1, ylike0_2, ylike0_3, ylike0_4, ylike0_5, ylike0_6, ylike0_7, ylike0_8, ylike0_9, ylike0_10, ylike0_11, ylike0_12, ylike0_13, ylike0_14, ylike0_15, ylike0_16, ylike0_17, ylike0_18, ylike0_19, ylike0_20, ylike0_21, ylike0_22, ylike0_23, ylike0_24, ylike0_25, ylike0_26, ylike0_27, ylike0_28, wrapU, wrapI, fdivP, tmodP, beq_iff_eq, beq_eq_false_iff_ne, decide_eq_true_eq, decide_eq_false_iff_not, ne_eq] at h ha hb hc
  simp only [Int.reducePow] at h ha hb hc
  first | (clear h hc; omega) | (clear h; omega) | omega

theorem like0_135 (val : Nat → Int) (h : Holds val [.ne ylike0_7 0, .ne (.a 0) 0, .is (.wrap .i64 ylike0_3) 0, .at ylike0_28 false, .at ylike0_27 false, .at ylike0_13 true, .at ylike0_15 true, .at ylike0_14 false, .at ylike0_9 true, .at ylike0_21 false, .is ylike0_2 0, .ge (.a 0) (-9223372036854775808), .le (.a 0) 9223372036854775807]) : LikeQ val := by
  exfalso
  have hb : Holds val (List.drop 10 _) := fun f hf => h f (List.mem_of_mem_drop hf)
  have ha : Holds val (List.take 1 _) := fun f hf => h f (List.mem_of_mem_take hf)
  have hc : Holds val (List.take 2 _) := fun f hf => h f (List.mem_of_mem_take hf)
  simp only [List.take_succ_cons, List.take_zero, List.drop_succ_cons, List.drop_zero, Holds, List.forall_mem_cons, List.not_mem_nil, false_implies, implies_true, and_true, Fact.holds, SB.eval, SX.eval, ylike0_0, ylike0_1, ylike0_2, ylike0_3, ylike0_4, ylike0_5, ylike0_6, ylike0_7, ylike0_8, ylike0_9, ylike0_10, ylike0_11, ylike0_12, ylike0_13, ylike0_14, ylike0_15, ylike0_16, ylike0_17, ylike0_18, ylike0_19, ylike0_20, ylike0_21, ylike0_22, ylike0_23, ylike0_24, ylike0_25, ylike0_26, ylike0_27, ylike0_28, wrapU, wrapI, fdivP, tmodP, beq_iff_eq, beq_eq_false_iff_ne, decide_eq_true_eq, decide_eq_false_iff_not, ne_eq] at h ha hb hc
  simp only [Int.reducePow] at h ha hb hc
  first | (clear h hc; omega) | (clear h; omega) | omega

theorem like0_136 (val : Nat → Int) (h : Holds val [.ne (.wrap .i64 ylike0_3) 0, .at ylike0_28 false, .at ylike0_27 false, .at ylike0_13 true, .at ylike0_15 true, .at ylike0_14 false, .at ylike0_9 true, .at ylike0_21 false, .is ylike0_2 0, .ge (.a 0) (-9223372036854775808), .le (.a 0) 9223372036854775807]) : LikeQ val := by
  exfalso
  have hb : Holds val (List.drop 8 _) := fun f hf => h f (List.mem_of_mem_drop hf)
  have ha : Holds val (List.take 1 _) := fun f hf => h f (List.mem_of_mem_take hf)
  have hc : Holds val (List.take 2 _) := fun f hf => h f (List.mem_of_mem_take hf)
  simp only [List.take_succ_cons, List.take_zero, List.drop_succ_cons, List.drop_zero, Holds, List.forall_mem_cons, List.not_mem_nil, false_implies, implies_true, and_true, Fact.holds, SB.eval, SX.eval, ylike0_0, ylike0_1, ylike0_2, ylike0_3, ylike0_4, ylike0_5, ylike0_6, ylike0_7, ylike0_8, ylike0_9, ylike0_10, ylike0_11, ylike0_12, ylike0_13, ylike0_14, ylike0_15, ylike0_16, ylike0_17, ylike0_18, ylike0_19, ylike0_20, ylike0_21, ylike0_22, ylike0_23, ylike0_24, ylike0_25, ylike0_26, ylike0_27, ylike0_28, wrapU, wrapI, fdivP, tmodP, beq_iff_eq, beq_eq_false_iff_ne, decide_eq_true_eq, decide_eq_false_iff_not, ne_eq] at h ha hb hc
  simp only [Int.reducePow] at h ha hb hc
  first | (clear h hc; omega) | (clear h; omega) | omega

theorem like0_137 (val : Nat → Int) (h : Holds val [.at ylike0_13 false, .at ylike0_15 true, .at ylike0_14 false, .at ylike0_9 true, .at ylike0_21 false, .is ylike0_2 0, .ge (.a 0) (-9223372036854775808), .le (.a 0) 9223372036854775807]) : LikeQ val := by
  exfalso
  have hb : Holds val (List.drop 5 _) := fun f hf => h f (List.mem_of_mem_drop hf)
  have ha : Holds val (List.take 1 _) := fun f hf => h f (List.mem_of_mem_take hf)
  have hc : Holds val (List.take 2 _) := fun f hf => h f (List.mem_of_mem_take hf)
  simp only [List.take_succ_cons, List.take_zero, List.drop_succ_cons, List.drop_zero, Holds, List.forall_mem_cons, List.not_mem_nil, false_implies, implies_true, and_true, Fact.holds, SB.eval, SX.eval, ylike0_0, ylike0_1, ylike0_2, ylike0_3, ylike0_4, ylike0_5, ylike0_6, ylike0_7, ylike0_8, ylike0_9, ylike0_10, ylike0_11, ylike0_12, ylike0_13, ylike0_14, ylike0_15, ylike0_16, ylike0_17, ylike0_18, ylike0_19, ylike0_20, ylike0_21, ylike0_22, ylike0_23, ylike0_24, ylike0_25, ylike0_26, ylike0_27, ylike0_28, wrapU, wrapI, fdivP, tmodP, beq_iff_eq, beq_eq_false_iff_ne, decide_eq_true_eq, decide_eq_false_iff_not, ne_eq] at h ha hb hc
  simp only [Int.reducePow] at h ha hb hc
  first | (clear h hc; omega) | (clear h; omega) | omega

theorem like0_138 (val : Nat → Int) (h : Holds val [.is (.a 0) 0, .is (.shr ylike0_4 56) 0, .at ylike0_15 false, .at ylike0_14 false, .at ylike0_9 true, .at ylike0_21 false, .is ylike0_2 0, .ge (.a 0) (-9223372036854775808), .le (.a 0) 9223372036854775807]) : LikeQ val :=
  leafK h (by kernel_rfl)

theorem like0_139 (val : Nat → Int) (h : Holds val [.le (.a 0) (-129), .ne (.a 0) 0, .is (.shr ylike0_4 56) 0, .at ylike0_15 false, .at ylike0_14 false, .at ylike0_9 true, .at ylike0_21 false, .is ylike0_2 0, .ge (.a 0) (-9223372036854775808), .le (.a 0) 9223372036854775807]) : LikeQ val :=
  leafK h (by kernel_rfl)

theorem like0_140 (val : Nat → Int) (h : Holds val [.ge (.a 0) 256, .ge (.a 0) (-128), .ne (.a 0) 0, .is (.shr ylike0_4 56) 0, .at ylike0_15 false, .at ylike0_14 false, .at ylike0_9 true, .at ylike0_21 false, .is ylike0_2 0, .ge (.a 0) (-9223372036854775808), .le (.a 0) 9223372036854775807]) : LikeQ val :=
  leafK h (by kernel_rfl)

theorem like0_141 (val : Nat → Int) (h : Holds val [.le (.a 0) 255, .ge (.a 0) (-128), .ne (.a 0) 0, .is (.shr ylike0_4 56) 0, .at ylike0_15 false, .at ylike0_14 false, .at ylike0_9 true, .at ylike0_21 false, .is ylike0_2 0, .ge (.a 0) (-9223372036854775808), .le (.a 0) 9223372036854775807]) : LikeQ val := by
  exfalso
  have hb : Holds val (List.drop 8 _) := fun f hf => h f (List.mem_of_mem_drop hf)
  have ha : Holds val (List.take 1 _) := fun f hf => h f (List.mem_of_mem_take hf)
  have hc : Holds val (List.take 2 _) := fun f hf => h f (List.mem_of_mem_take hf)
  simp only [List.take_succ_cons, List.take_zero, List.drop_succ_cons, List.drop_zero, Holds, List.forall_mem_cons, List.not_mem_nil, false_implies, implies_true, and_true, Fact.holds, SB.eval, SX.eval, ylike0_0, ylike0_1, ylike0_2, ylike0_3, ylike0_4, ylike0_5, ylike0_6, ylike0_7, ylike0_8, ylike0_9, ylike0_10, ylike0_11, ylike0_12, ylike0_13, ylike0_14, ylike0_15, ylike0_16, ylike0_17, ylike0_18, ylike0_19, ylike0_20, ylike0_21, ylike0_22, ylike0_23, ylike0_24, ylike0_25, ylike0_26, ylike0_27, ylike0_28, wrapU, wrapI, fdivP, tmodP, beq_iff_eq, beq_eq_false_iff_ne, decide_eq_true_eq, decide_eq_false_iff_not, ne_eq] at h ha hb hc
  simp only [Int.reducePow] at h ha hb hc
  first | (clear h hc; omega) | (clear h; omega) | omega

theorem like0_142 (val : Nat → Int) (h : Holds val [.ne (.shr ylike0_4 56) 0, .at ylike0_15 false, .at ylike0_14 false, .at ylike0_9 true, .at ylike0_21 false, .is ylike0_2 0, .ge (.a 0) (-9223372036854775808), .le (.a 0) 9223372036854775807]) : LikeQ val := by
  exfalso
  have hb : Holds val (List.drop 5 _) := fun f hf => h f (List.mem_of_mem_drop hf)
  have ha : Holds val (List.take 1 _) := fun f hf => h f (List.mem_of_mem_take hf)
  have hc : Holds val (List.take 2 _) := fun f hf => h f (List.mem_of_mem_take hf)
  simp only [List.take_succ_cons, List.take_zero, List.drop_succ_cons, List.drop_zero, Holds, List.forall_mem_cons, List.not_mem_nil, false_implies, implies_true, and_true, Fact.holds, SB.eval, SX.eval, ylike0_0, ylike0_1, ylike0_2, ylike0_3, ylike0_4, ylike0_5, ylike0_6, ylike0_7, ylike0_8, ylike0_9, ylike0_10, ylike0_11, ylike0_12, ylike0_13, ylike0_14, ylike0_15, ylike0_16, ylike0_17, ylike0_18, ylike0_19, ylike0_20, ylike0_21, ylike0_22, ylike0_23, ylike0_24, ylike0_25, ylike0_26, ylike0_27, ylike0_28, wrapU, wrapI, fdivP, tmodP, beq_iff_eq, beq_eq_false_iff_ne, decide_eq_true_eq, decide_eq_false_iff_not, ne_eq] at h ha hb hc
  simp only [Int.reducePow] at h ha hb hc
  first | (clear h hc; omega) | (clear h; omega) | omega

theorem like0_143 (val : Nat → Int) (h : Holds val [.le (.a 0) (-129), .at ylike0_9 false, .at ylike0_21 false, .is ylike0_2 0, .ge (.a 0) (-9223372036854775808), .le (.a 0) 9223372036854775807]) : LikeQ val :=
  leafK h (by kernel_rfl)

theorem like0_144 (val : Nat → Int) (h : Holds val [.ge (.a 0) 256, .ge (.a 0) (-128), .at ylike0_9 false, .at ylike0_21 false, .is ylike0_2 0, .ge (.a 0) (-9223372036854775808), .le (.a 0) 9223372036854775807]) : LikeQ val :=
  leafK h (by kernel_rfl)

theorem like0_145 (val : Nat → Int) (h : Holds val [.le (.a 0) 255, .ge (.a 0) (-128), .at ylike0_9 false, .at ylike0_21 false, .is ylike0_2 0, .ge (.a 0) (-9223372036854775808), .le (.a 0) 9223372036854775807]) : LikeQ val := by
  exfalso
  have hb : Holds val (List.drop 4 _) := fun f hf => h f (List.mem_of_mem_drop hf)
  have ha : Holds val (List.take 1 _) := fun f hf => h f (List.mem_of_mem_take hf)
  have hc : Holds val (List.take 2 _) := fun f hf => h f (List.mem_of_mem_take hf)
  simp only [List.take_succ_cons, List.take_zero, List.drop_succ_cons, List.drop_zero, Holds, List.forall_mem_cons, List.not_mem_nil, false_implies, implies_true, and_true, Fact.holds, SB.eval, SX.eval, ylike0_0, ylike0_1, ylike0_2, ylike0_3, ylike0_4, ylike0_5, ylike0_6, ylike0_7, ylike0_8, ylike0_9, ylike0_10, ylike0_11, ylike0_12, ylike0_13, ylike0_14, ylike0_15, ylike0_16, ylike0_17, ylike0_18, ylike0_19, ylike0_20, ylike0_21, ylike0_22, ylike0_23, ylike0_24, ylike0_25, ylike0_26, ylike0_27, ylike0_28, wrapU, wrapI, fdivP, tmodP, beq_iff_eq, beq_eq_false_iff_ne, decide_eq_true_eq, decide_eq_false_iff_not, ne_eq] at h ha hb hc
  simp only [Int.reducePow] at h ha hb hc
  first | (clear h hc; omega) | (clear h; omega) | omega

theorem like0Sub2 (val : Nat → Int) (h : Holds val [.at ylike0_27 false, .at ylike0_13 true, .at ylike0_14 true, .at ylike0_21 true, .is ylike0_2 0, .ge (.a 0) (-9223372036854775808), .le (.a 0) 9223372036854775807]) : LikeQ val :=
  by_way ylike0_28 (.at ylike0_28 true) (.at ylike0_28 false) (by kernel_rfl) (by kernel_rfl) h
  (fun h => by_way ylike0_26 (.at ylike0_26 true) (.at ylike0_26 false) (by kernel_rfl) (by kernel_rfl) h
  (fun h => by_way ylike0_25 (.at ylike0_25 true) (.at ylike0_25 false) (by kernel_rfl) (by kernel_rfl) h
  (fun h => by_way ylike0_20 (.at ylike0_20 true) (.at ylike0_20 false) (by kernel_rfl) (by kernel_rfl) h
  (fun h => by_way (.le (.c (-128)) (.shr ylike0_4 56)) (.ge (.shr ylike0_4 56) (-128)) (.le (.shr ylike0_4 56) (-129)) (by kernel_rfl) (by kernel_rfl) h
  (fun h => by_way (.lt (.shr ylike0_4 56) (.c 128)) (.le (.shr ylike0_4 56) 127) (.ge (.shr ylike0_4 56) 128) (by kernel_rfl) (by kernel_rfl) h
  (fun h => by_way (.le (.c 0) (.wrap .i64 ylike0_3)) (.ge (.wrap .i64 ylike0_3) 0) (.le (.wrap .i64 ylike0_3) (-1)) (by kernel_rfl) (by kernel_rfl) h
  (fun h => by_way (.lt (.wrap .i64 ylike0_3) (.c 256)) (.le (.wrap .i64 ylike0_3) 255) (.ge (.wrap .i64 ylike0_3) 256) (by kernel_rfl) (by kernel_rfl) h
  (fun h => by_way (.eq ylike0_12 (.c 0)) (.is ylike0_12 0) (.ne ylike0_12 0) (by kernel_rfl) (by kernel_rfl) h
  (fun h => by_way (.eq ylike0_24 (.c 0)) (.is ylike0_24 0) (.ne ylike0_24 0) (by kernel_rfl) (by kernel_rfl) h
  (fun h => like0_10 val h)
  (fun h => like0_11 val h))
  (fun h => like0_12 val h))
  (fun h => like0_13 val h))
  (fun h => like0_14 val h))
  (fun h => like0_15 val h))
  (fun h => like0_16 val h))
  (fun h => like0_17 val h))
  (fun h => like0_18 val h))
  (fun h => like0_19 val h))
  (fun h => by_way ylike0_22 (.is (.wrap .i64 ylike0_3) 0) (.ne (.wrap .i64 ylike0_3) 0) (by kernel_rfl) (by kernel_rfl) h
  (fun h => by_way (.eq (.a 0) (.c 0)) (.is (.a 0) 0) (.ne (.a 0) 0) (by kernel_rfl) (by kernel_rfl) h
  (fun h => like0_20 val h)
  (fun h => by_way ylike0_9 (.at ylike0_9 true) (.at ylike0_9 false) (by kernel_rfl) (by kernel_rfl) h
  (fun h => by_way (.eq ylike0_7 (.c 0)) (.is ylike0_7 0) (.ne ylike0_7 0) (by kernel_rfl) (by kernel_rfl) h
  (fun h => by_way ylike0_10 (.is (.shr ylike0_4 56) 0) (.ne (.shr ylike0_4 56) 0) (by kernel_rfl) (by kernel_rfl) h
  (fun h => by_way (.lt (.a 0) (.c (-128))) (.le (.a 0) (-129)) (.ge (.a 0) (-128)) (by kernel_rfl) (by kernel_rfl) h
  (fun h => like0_21 val h)
  (fun h => by_way (.le (.c 256) (.a 0)) (.ge (.a 0) 256) (.le (.a 0) 255) (by kernel_rfl) (by kernel_rfl) h
  (fun h => like0_22 val h)
  (fun h => like0_23 val h)))
  (fun h => by_way ylike0_15 (.at ylike0_15 true) (.at ylike0_15 false) (by kernel_rfl) (by kernel_rfl) h
  (fun h => like0_24 val h)
  (fun h => like0_25 val h)))
  (fun h => like0_26 val h))
  (fun h => by_way (.lt (.a 0) (.c (-128))) (.le (.a 0) (-129)) (.ge (.a 0) (-128)) (by kernel_rfl) (by kernel_rfl) h
  (fun h => like0_27 val h)
  (fun h => by_way (.le (.c 256) (.a 0)) (.ge (.a 0) 256) (.le (.a 0) 255) (by kernel_rfl) (by kernel_rfl) h
  (fun h => like0_28 val h)
  (fun h => like0_29 val h)))))
  (fun h => like0_30 val h))

theorem like0Sub1 (val : Nat → Int) (h : Holds val [.at ylike0_13 true, .at ylike0_14 true, .at ylike0_21 true, .is ylike0_2 0, .ge (.a 0) (-9223372036854775808), .le (.a 0) 9223372036854775807]) : LikeQ val :=
  by_way ylike0_27 (.at ylike0_27 true) (.at ylike0_27 false) (by kernel_rfl) (by kernel_rfl) h
  (fun h => by_way ylike0_26 (.at ylike0_26 true) (.at ylike0_26 false) (by kernel_rfl) (by kernel_rfl) h
  (fun h => by_way ylike0_25 (.at ylike0_25 true) (.at ylike0_25 false) (by kernel_rfl) (by kernel_rfl) h
  (fun h => by_way ylike0_20 (.at ylike0_20 true) (.at ylike0_20 false) (by kernel_rfl) (by kernel_rfl) h
  (fun h => by_way (.le (.c (-128)) (.shr ylike0_4 56)) (.ge (.shr ylike0_4 56) (-128)) (.le (.shr ylike0_4 56) (-129)) (by kernel_rfl) (by kernel_rfl) h
  (fun h => by_way (.lt (.shr ylike0_4 56) (.c 128)) (.le (.shr ylike0_4 56) 127) (.ge (.shr ylike0_4 56) 128) (by kernel_rfl) (by kernel_rfl) h
  (fun h => by_way (.le (.c 0) (.wrap .i64 ylike0_3)) (.ge (.wrap .i64 ylike0_3) 0) (.le (.wrap .i64 ylike0_3) (-1)) (by kernel_rfl) (by kernel_rfl) h
  (fun h => by_way (.lt (.wrap .i64 ylike0_3) (.c 256)) (.le (.wrap .i64 ylike0_3) 255) (.ge (.wrap .i64 ylike0_3) 256) (by kernel_rfl) (by kernel_rfl) h
  (fun h => by_way (.eq ylike0_12 (.c 0)) (.is ylike0_12 0) (.ne ylike0_12 0) (by kernel_rfl) (by kernel_rfl) h
  (fun h => by_way (.eq ylike0_24 (.c 0)) (.is ylike0_24 0) (.ne ylike0_24 0) (by kernel_rfl) (by kernel_rfl) h
  (fun h => like0_0 val h)
  (fun h => like0_1 val h))
  (fun h => like0_2 val h))
  (fun h => like0_3 val h))
  (fun h => like0_4 val h))
  (fun h => like0_5 val h))
  (fun h => like0_6 val h))
  (fun h => like0_7 val h))
  (fun h => like0_8 val h))
  (fun h => like0_9 val h))
  (fun h => like0Sub2 val h)

theorem like0Sub0 (val : Nat → Int) (h : Holds val [.at ylike0_14 true, .at ylike0_21 true, .is ylike0_2 0, .ge (.a 0) (-9223372036854775808), .le (.a 0) 9223372036854775807]) : LikeQ val :=
  by_way ylike0_13 (.at ylike0_13 true) (.at ylike0_13 false) (by kernel_rfl) (by kernel_rfl) h
  (fun h => like0Sub1 val h)
  (fun h => like0_31 val h)

theorem like0Sub6 (val : Nat → Int) (h : Holds val [.at ylike0_27 false, .at ylike0_13 true, .at ylike0_15 true, .at ylike0_14 false, .at ylike0_21 true, .is ylike0_2 0, .ge (.a 0) (-9223372036854775808), .le (.a 0) 9223372036854775807]) : LikeQ val :=
  by_way ylike0_28 (.at ylike0_28 true) (.at ylike0_28 false) (by kernel_rfl) (by kernel_rfl) h
  (fun h => by_way ylike0_26 (.at ylike0_26 true) (.at ylike0_26 false) (by kernel_rfl) (by kernel_rfl) h
  (fun h => by_way ylike0_25 (.at ylike0_25 true) (.at ylike0_25 false) (by kernel_rfl) (by kernel_rfl) h
  (fun h => by_way ylike0_20 (.at ylike0_20 true) (.at ylike0_20 false) (by kernel_rfl) (by kernel_rfl) h
  (fun h => by_way (.le (.c (-128)) (.shr ylike0_4 56)) (.ge (.shr ylike0_4 56) (-128)) (.le (.shr ylike0_4 56) (-129)) (by kernel_rfl) (by kernel_rfl) h
  (fun h => by_way (.lt (.shr ylike0_4 56) (.c 128)) (.le (.shr ylike0_4 56) 127) (.ge (.shr ylike0_4 56) 128) (by kernel_rfl) (by kernel_rfl) h
  (fun h => by_way (.le (.c 0) (.wrap .i64 ylike0_3)) (.ge (.wrap .i64 ylike0_3) 0) (.le (.wrap .i64 ylike0_3) (-1)) (by kernel_rfl) (by kernel_rfl) h
  (fun h => by_way (.lt (.wrap .i64 ylike0_3) (.c 256)) (.le (.wrap .i64 ylike0_3) 255) (.ge (.wrap .i64 ylike0_3) 256) (by kernel_rfl) (by kernel_rfl) h
  (fun h => by_way (.eq ylike0_12 (.c 0)) (.is ylike0_12 0) (.ne ylike0_12 0) (by kernel_rfl) (by kernel_rfl) h
  (fun h => by_way (.eq ylike0_24 (.c 0)) (.is ylike0_24 0) (.ne ylike0_24 0) (by kernel_rfl) (by kernel_rfl) h
  (fun h => like0_42 val h)
  (fun h => like0_43 val h))
  (fun h => like0_44 val h))
  (fun h => like0_45 val h))
  (fun h => like0_46 val h))
  (fun h => like0_47 val h))
  (fun h => like0_48 val h))
  (fun h => like0_49 val h))
  (fun h => like0_50 val h))
  (fun h => like0_51 val h))
  (fun h => by_way ylike0_22 (.is (.wrap .i64 ylike0_3) 0) (.ne (.wrap .i64 ylike0_3) 0) (by kernel_rfl) (by kernel_rfl) h
  (fun h => by_way (.eq (.a 0) (.c 0)) (.is (.a 0) 0) (.ne (.a 0) 0) (by kernel_rfl) (by kernel_rfl) h
  (fun h => like0_52 val h)
  (fun h => by_way ylike0_9 (.at ylike0_9 true) (.at ylike0_9 false) (by kernel_rfl) (by kernel_rfl) h
  (fun h => by_way (.eq ylike0_7 (.c 0)) (.is ylike0_7 0) (.ne ylike0_7 0) (by kernel_rfl) (by kernel_rfl) h
  (fun h => by_way ylike0_10 (.is (.shr ylike0_4 56) 0) (.ne (.shr ylike0_4 56) 0) (by kernel_rfl) (by kernel_rfl) h
  (fun h => by_way (.lt (.a 0) (.c (-128))) (.le (.a 0) (-129)) (.ge (.a 0) (-128)) (by kernel_rfl) (by kernel_rfl) h
  (fun h => like0_53 val h)
  (fun h => by_way (.le (.c 256) (.a 0)) (.ge (.a 0) 256) (.le (.a 0) 255) (by kernel_rfl) (by kernel_rfl) h
  (fun h => like0_54 val h)
  (fun h => like0_55 val h)))
  (fun h => like0_56 val h))
  (fun h => like0_57 val h))
  (fun h => by_way (.lt (.a 0) (.c (-128))) (.le (.a 0) (-129)) (.ge (.a 0) (-128)) (by kernel_rfl) (by kernel_rfl) h
  (fun h => like0_58 val h)
  (fun h => by_way (.le (.c 256) (.a 0)) (.ge (.a 0) 256) (.le (.a 0) 255) (by kernel_rfl) (by kernel_rfl) h
  (fun h => like0_59 val h)
  (fun h => like0_60 val h)))))
  (fun h => like0_61 val h))

theorem like0Sub5 (val : Nat → Int) (h : Holds val [.at ylike0_13 true, .at ylike0_15 true, .at ylike0_14 false, .at ylike0_21 true, .is ylike0_2 0, .ge (.a 0) (-9223372036854775808), .le (.a 0) 9223372036854775807]) : LikeQ val :=
  by_way ylike0_27 (.at ylike0_27 true) (.at ylike0_27 false) (by kernel_rfl) (by kernel_rfl) h
  (fun h => by_way ylike0_26 (.at ylike0_26 true) (.at ylike0_26 false) (by kernel_rfl) (by kernel_rfl) h
  (fun h => by_way ylike0_25 (.at ylike0_25 true) (.at ylike0_25 false) (by kernel_rfl) (by kernel_rfl) h
  (fun h => by_way ylike0_20 (.at ylike0_20 true) (.at ylike0_20 false) (by kernel_rfl) (by kernel_rfl) h
  (fun h => by_way (.le (.c (-128)) (.shr ylike0_4 56)) (.ge (.shr ylike0_4 56) (-128)) (.le (.shr ylike0_4 56) (-129)) (by kernel_rfl) (by kernel_rfl) h
  (fun h => by_way (.lt (.shr ylike0_4 56) (.c 128)) (.le (.shr ylike0_4 56) 127) (.ge (.shr ylike0_4 56) 128) (by kernel_rfl) (by kernel_rfl) h
  (fun h => by_way (.le (.c 0) (.wrap .i64 ylike0_3)) (.ge (.wrap .i64 ylike0_3) 0) (.le (.wrap .i64 ylike0_3) (-1)) (by kernel_rfl) (by kernel_rfl) h
  (fun h => by_way (.lt (.wrap .i64 ylike0_3) (.c 256)) (.le (.wrap .i64 ylike0_3) 255) (.ge (.wrap .i64 ylike0_3) 256) (by kernel_rfl) (by kernel_rfl) h
  (fun h => by_way (.eq ylike0_12 (.c 0)) (.is ylike0_12 0) (.ne ylike0_12 0) (by kernel_rfl) (by kernel_rfl) h
  (fun h => by_way (.eq ylike0_24 (.c 0)) (.is ylike0_24 0) (.ne ylike0_24 0) (by kernel_rfl) (by kernel_rfl) h
  (fun h => like0_32 val h)
  (fun h => like0_33 val h))
  (fun h => like0_34 val h))
  (fun h => like0_35 val h))
  (fun h => like0_36 val h))
  (fun h => like0_37 val h))
  (fun h => like0_38 val h))
  (fun h => like0_39 val h))
  (fun h => like0_40 val h))
  (fun h => like0_41 val h))
  (fun h => like0Sub6 val h)

theorem like0Sub4 (val : Nat → Int) (h : Holds val [.at ylike0_15 true, .at ylike0_14 false, .at ylike0_21 true, .is ylike0_2 0, .ge (.a 0) (-9223372036854775808), .le (.a 0) 9223372036854775807]) : LikeQ val :=
  by_way ylike0_13 (.at ylike0_13 true) (.at ylike0_13 false) (by kernel_rfl) (by kernel_rfl) h
  (fun h => like0Sub5 val h)
  (fun h => like0_62 val h)

theorem like0Sub8 (val : Nat → Int) (h : Holds val [.is (.shr ylike0_4 56) 0, .at ylike0_15 false, .at ylike0_14 false, .at ylike0_21 true, .is ylike0_2 0, .ge (.a 0) (-9223372036854775808), .le (.a 0) 9223372036854775807]) : LikeQ val :=
  by_way ylike0_27 (.at ylike0_27 true) (.at ylike0_27 false) (by kernel_rfl) (by kernel_rfl) h
  (fun h => by_way ylike0_26 (.at ylike0_26 true) (.at ylike0_26 false) (by kernel_rfl) (by kernel_rfl) h
  (fun h => by_way ylike0_22 (.is (.wrap .i64 ylike0_3) 0) (.ne (.wrap .i64 ylike0_3) 0) (by kernel_rfl) (by kernel_rfl) h
  (fun h => by_way (.eq (.a 0) (.c 0)) (.is (.a 0) 0) (.ne (.a 0) 0) (by kernel_rfl) (by kernel_rfl) h
  (fun h => like0_63 val h)
  (fun h => by_way (.lt (.a 0) (.c (-128))) (.le (.a 0) (-129)) (.ge (.a 0) (-128)) (by kernel_rfl) (by kernel_rfl) h
  (fun h => like0_64 val h)
  (fun h => by_way (.le (.c 256) (.a 0)) (.ge (.a 0) 256) (.le (.a 0) 255) (by kernel_rfl) (by kernel_rfl) h
  (fun h => like0_65 val h)
  (fun h => like0_66 val h))))
  (fun h => like0_67 val h))
  (fun h => like0_68 val h))
  (fun h => by_way ylike0_28 (.at ylike0_28 true) (.at ylike0_28 false) (by kernel_rfl) (by kernel_rfl) h
  (fun h => by_way ylike0_26 (.at ylike0_26 true) (.at ylike0_26 false) (by kernel_rfl) (by kernel_rfl) h
  (fun h => by_way ylike0_22 (.is (.wrap .i64 ylike0_3) 0) (.ne (.wrap .i64 ylike0_3) 0) (by kernel_rfl) (by kernel_rfl) h
  (fun h => by_way (.eq (.a 0) (.c 0)) (.is (.a 0) 0) (.ne (.a 0) 0) (by kernel_rfl) (by kernel_rfl) h
  (fun h => like0_69 val h)
  (fun h => by_way (.lt (.a 0) (.c (-128))) (.le (.a 0) (-129)) (.ge (.a 0) (-128)) (by kernel_rfl) (by kernel_rfl) h
  (fun h => like0_70 val h)
  (fun h => by_way (.le (.c 256) (.a 0)) (.ge (.a 0) 256) (.le (.a 0) 255) (by kernel_rfl) (by kernel_rfl) h
  (fun h => like0_71 val h)
  (fun h => like0_72 val h))))
  (fun h => like0_73 val h))
  (fun h => like0_74 val h))
  (fun h => by_way ylike0_22 (.is (.wrap .i64 ylike0_3) 0) (.ne (.wrap .i64 ylike0_3) 0) (by kernel_rfl) (by kernel_rfl) h
  (fun h => by_way (.eq (.a 0) (.c 0)) (.is (.a 0) 0) (.ne (.a 0) 0) (by kernel_rfl) (by kernel_rfl) h
  (fun h => like0_75 val h)
  (fun h => by_way (.lt (.a 0) (.c (-128))) (.le (.a 0) (-129)) (.ge (.a 0) (-128)) (by kernel_rfl) (by kernel_rfl) h
  (fun h => like0_76 val h)
  (fun h => by_way (.le (.c 256) (.a 0)) (.ge (.a 0) 256) (.le (.a 0) 255) (by kernel_rfl) (by kernel_rfl) h
  (fun h => like0_77 val h)
  (fun h => like0_78 val h))))
  (fun h => like0_79 val h)))

theorem like0Sub7 (val : Nat → Int) (h : Holds val [.at ylike0_15 false, .at ylike0_14 false, .at ylike0_21 true, .is ylike0_2 0, .ge (.a 0) (-9223372036854775808), .le (.a 0) 9223372036854775807]) : LikeQ val :=
  by_way (.eq (.c 0) (.shr ylike0_4 56)) (.is (.shr ylike0_4 56) 0) (.ne (.shr ylike0_4 56) 0) (by kernel_rfl) (by kernel_rfl) h
  (fun h => like0Sub8 val h)
  (fun h => like0_80 val h)

theorem like0Sub3 (val : Nat → Int) (h : Holds val [.at ylike0_14 false, .at ylike0_21 true, .is ylike0_2 0, .ge (.a 0) (-9223372036854775808), .le (.a 0) 9223372036854775807]) : LikeQ val :=
  by_way ylike0_15 (.at ylike0_15 true) (.at ylike0_15 false) (by kernel_rfl) (by kernel_rfl) h
  (fun h => like0Sub4 val h)
  (fun h => like0Sub7 val h)

theorem like0Sub11 (val : Nat → Int) (h : Holds val [.at ylike0_27 false, .at ylike0_13 true, .at ylike0_14 true, .at ylike0_9 true, .at ylike0_21 false, .is ylike0_2 0, .ge (.a 0) (-9223372036854775808), .le (.a 0) 9223372036854775807]) : LikeQ val :=
  by_way ylike0_28 (.at ylike0_28 true) (.at ylike0_28 false) (by kernel_rfl) (by kernel_rfl) h
  (fun h => by_way ylike0_26 (.at ylike0_26 true) (.at ylike0_26 false) (by kernel_rfl) (by kernel_rfl) h
  (fun h => by_way ylike0_25 (.at ylike0_25 true) (.at ylike0_25 false) (by kernel_rfl) (by kernel_rfl) h
  (fun h => by_way ylike0_20 (.at ylike0_20 true) (.at ylike0_20 false) (by kernel_rfl) (by kernel_rfl) h
  (fun h => by_way (.le (.c (-128)) (.shr ylike0_4 56)) (.ge (.shr ylike0_4 56) (-128)) (.le (.shr ylike0_4 56) (-129)) (by kernel_rfl) (by kernel_rfl) h
  (fun h => by_way (.lt (.shr ylike0_4 56) (.c 128)) (.le (.shr ylike0_4 56) 127) (.ge (.shr ylike0_4 56) 128) (by kernel_rfl) (by kernel_rfl) h
  (fun h => by_way (.le (.c 0) (.wrap .i64 ylike0_3)) (.ge (.wrap .i64 ylike0_3) 0) (.le (.wrap .i64 ylike0_3) (-1)) (by kernel_rfl) (by kernel_rfl) h
  (fun h => by_way (.lt (.wrap .i64 ylike0_3) (.c 256)) (.le (.wrap .i64 ylike0_3) 255) (.ge (.wrap .i64 ylike0_3) 256) (by kernel_rfl) (by kernel_rfl) h
  (fun h => by_way (.eq ylike0_12 (.c 0)) (.is ylike0_12 0) (.ne ylike0_12 0) (by kernel_rfl) (by kernel_rfl) h
  (fun h => by_way (.eq ylike0_24 (.c 0)) (.is ylike0_24 0) (.ne ylike0_24 0) (by kernel_rfl) (by kernel_rfl) h
  (fun h => like0_91 val h)
  (fun h => like0_92 val h))
  (fun h => like0_93 val h))
  (fun h => like0_94 val h))
  (fun h => like0_95 val h))
  (fun h => like0_96 val h))
  (fun h => like0_97 val h))
  (fun h => like0_98 val h))
  (fun h => like0_99 val h))
  (fun h => like0_100 val h))
  (fun h => by_way ylike0_22 (.is (.wrap .i64 ylike0_3) 0) (.ne (.wrap .i64 ylike0_3) 0) (by kernel_rfl) (by kernel_rfl) h
  (fun h => by_way (.eq (.a 0) (.c 0)) (.is (.a 0) 0) (.ne (.a 0) 0) (by kernel_rfl) (by kernel_rfl) h
  (fun h => like0_101 val h)
  (fun h => by_way (.eq ylike0_7 (.c 0)) (.is ylike0_7 0) (.ne ylike0_7 0) (by kernel_rfl) (by kernel_rfl) h
  (fun h => by_way ylike0_10 (.is (.shr ylike0_4 56) 0) (.ne (.shr ylike0_4 56) 0) (by kernel_rfl) (by kernel_rfl) h
  (fun h => by_way (.lt (.a 0) (.c (-128))) (.le (.a 0) (-129)) (.ge (.a 0) (-128)) (by kernel_rfl) (by kernel_rfl) h
  (fun h => like0_102 val h)
  (fun h => by_way (.le (.c 256) (.a 0)) (.ge (.a 0) 256) (.le (.a 0) 255) (by kernel_rfl) (by kernel_rfl) h
  (fun h => like0_103 val h)
  (fun h => like0_104 val h)))
  (fun h => by_way ylike0_15 (.at ylike0_15 true) (.at ylike0_15 false) (by kernel_rfl) (by kernel_rfl) h
  (fun h => like0_105 val h)
  (fun h => like0_106 val h)))
  (fun h => like0_107 val h)))
  (fun h => like0_108 val h))

theorem like0Sub10 (val : Nat → Int) (h : Holds val [.at ylike0_13 true, .at ylike0_14 true, .at ylike0_9 true, .at ylike0_21 false, .is ylike0_2 0, .ge (.a 0) (-9223372036854775808), .le (.a 0) 9223372036854775807]) : LikeQ val :=
  by_way ylike0_27 (.at ylike0_27 true) (.at ylike0_27 false) (by kernel_rfl) (by kernel_rfl) h
  (fun h => by_way ylike0_26 (.at ylike0_26 true) (.at ylike0_26 false) (by kernel_rfl) (by kernel_rfl) h
  (fun h => by_way ylike0_25 (.at ylike0_25 true) (.at ylike0_25 false) (by kernel_rfl) (by kernel_rfl) h
  (fun h => by_way ylike0_20 (.at ylike0_20 true) (.at ylike0_20 false) (by kernel_rfl) (by kernel_rfl) h
  (fun h => by_way (.le (.c (-128)) (.shr ylike0_4 56)) (.ge (.shr ylike0_4 56) (-128)) (.le (.shr ylike0_4 56) (-129)) (by kernel_rfl) (by kernel_rfl) h
  (fun h => by_way (.lt (.shr ylike0_4 56) (.c 128)) (.le (.shr ylike0_4 56) 127) (.ge (.shr ylike0_4 56) 128) (by kernel_rfl) (by kernel_rfl) h
  (fun h => by_way (.le (.c 0) (.wrap .i64 ylike0_3)) (.ge (.wrap .i64 ylike0_3) 0) (.le (.wrap .i64 ylike0_3) (-1)) (by kernel_rfl) (by kernel_rfl) h
  (fun h => by_way (.lt (.wrap .i64 ylike0_3) (.c 256)) (.le (.wrap .i64 ylike0_3) 255) (.ge (.wrap .i64 ylike0_3) 256) (by kernel_rfl) (by kernel_rfl) h
  (fun h => by_way (.eq ylike0_12 (.c 0)) (.is ylike0_12 0) (.ne ylike0_12 0) (by kernel_rfl) (by kernel_rfl) h
  (fun h => by_way (.eq ylike0_24 (.c 0)) (.is ylike0_24 0) (.ne ylike0_24 0) (by kernel_rfl) (by kernel_rfl) h
  (fun h => like0_81 val h)
  (fun h => like0_82 val h))
  (fun h => like0_83 val h))
  (fun h => like0_84 val h))
  (fun h => like0_85 val h))
  (fun h => like0_86 val h))
  (fun h => like0_87 val h))
  (fun h => like0_88 val h))
  (fun h => like0_89 val h))
  (fun h => like0_90 val h))
  (fun h => like0Sub11 val h)

theorem like0Sub9 (val : Nat → Int) (h : Holds val [.at ylike0_14 true, .at ylike0_9 true, .at ylike0_21 false, .is ylike0_2 0, .ge (.a 0) (-9223372036854775808), .le (.a 0) 9223372036854775807]) : LikeQ val :=
  by_way ylike0_13 (.at ylike0_13 true) (.at ylike0_13 false) (by kernel_rfl) (by kernel_rfl) h
  (fun h => like0Sub10 val h)
  (fun h => like0_109 val h)

theorem like0Sub15 (val : Nat → Int) (h : Holds val [.at ylike0_27 false, .at ylike0_13 true, .at ylike0_15 true, .at ylike0_14 false, .at ylike0_9 true, .at ylike0_21 false, .is ylike0_2 0, .ge (.a 0) (-9223372036854775808), .le (.a 0) 9223372036854775807]) : LikeQ val :=
  by_way ylike0_28 (.at ylike0_28 true) (.at ylike0_28 false) (by kernel_rfl) (by kernel_rfl) h
  (fun h => by_way ylike0_26 (.at ylike0_26 true) (.at ylike0_26 false) (by kernel_rfl) (by kernel_rfl) h
  (fun h => by_way ylike0_25 (.at ylike0_25 true) (.at ylike0_25 false) (by kernel_rfl) (by kernel_rfl) h
  (fun h => by_way ylike0_20 (.at ylike0_20 true) (.at ylike0_20 false) (by kernel_rfl) (by kernel_rfl) h
  (fun h => by_way (.le (.c (-128)) (.shr ylike0_4 56)) (.ge (.shr ylike0_4 56) (-128)) (.le (.shr ylike0_4 56) (-129)) (by kernel_rfl) (by kernel_rfl) h
  (fun h => by_way (.lt (.shr ylike0_4 56) (.c 128)) (.le (.shr ylike0_4 56) 127) (.ge (.shr ylike0_4 56) 128) (by kernel_rfl) (by kernel_rfl) h
  (fun h => by_way (.le (.c 0) (.wrap .i64 ylike0_3)) (.ge (.wrap .i64 ylike0_3) 0) (.le (.wrap .i64 ylike0_3) (-1)) (by kernel_rfl) (by kernel_rfl) h
  (fun h => by_way (.lt (.wrap .i64 ylike0_3) (.c 256)) (.le (.wrap .i64 ylike0_3) 255) (.ge (.wrap .i64 ylike0_3) 256) (by kernel_rfl) (by kernel_rfl) h
  (fun h => by_way (.eq ylike0_12 (.c 0)) (.is ylike0_12 0) (.ne ylike0_12 0) (by kernel_rfl) (by kernel_rfl) h
  (fun h => by_way (.eq ylike0_24 (.c 0)) (.is ylike0_24 0) (.ne ylike0_24 0) (by kernel_rfl) (by kernel_rfl) h
  (fun h => like0_120 val h)
  (fun h => like0_121 val h))
  (fun h => like0_122 val h))
  (fun h => like0_123 val h))
  (fun h => like0_124 val h))
  (fun h => like0_125 val h))
  (fun h => like0_126 val h))
  (fun h => like0_127 val h))
  (fun h => like0_128 val h))
  (fun h => like0_129 val h))
  (fun h => by_way ylike0_22 (.is (.wrap .i64 ylike0_3) 0) (.ne (.wrap .i64 ylike0_3) 0) (by kernel_rfl) (by kernel_rfl) h
  (fun h => by_way (.eq (.a 0) (.c 0)) (.is (.a 0) 0) (.ne (.a 0) 0) (by kernel_rfl) (by kernel_rfl) h
  (fun h => like0_130 val h)
  (fun h => by_way (.eq ylike0_7 (.c 0)) (.is ylike0_7 0) (.ne ylike0_7 0) (by kernel_rfl) (by kernel_rfl) h
  (fun h => by_way ylike0_10 (.is (.shr ylike0_4 56) 0) (.ne (.shr ylike0_4 56) 0) (by kernel_rfl) (by kernel_rfl) h
  (fun h => by_way (.lt (.a 0) (.c (-128))) (.le (.a 0) (-129)) (.ge (.a 0) (-128)) (by kernel_rfl) (by kernel_rfl) h
  (fun h => like0_131 val h)
  (fun h => by_way (.le (.c 256) (.a 0)) (.ge (.a 0) 256) (.le (.a 0) 255) (by kernel_rfl) (by kernel_rfl) h
  (fun h => like0_132 val h)
  (fun h => like0_133 val h)))
  (fun h => like0_134 val h))
  (fun h => like0_135 val h)))
  (fun h => like0_136 val h))

theorem like0Sub14 (val : Nat → Int) (h : Holds val [.at ylike0_13 true, .at ylike0_15 true, .at ylike0_14 false, .at ylike0_9 true, .at ylike0_21 false, .is ylike0_2 0, .ge (.a 0) (-9223372036854775808), .le (.a 0) 9223372036854775807]) : LikeQ val :=
  by_way ylike0_27 (.at ylike0_27 true) (.at ylike0_27 false) (by kernel_rfl) (by kernel_rfl) h
  (fun h => by_way ylike0_26 (.at ylike0_26 true) (.at ylike0_26 false) (by kernel_rfl) (by kernel_rfl) h
  (fun h => by_way ylike0_25 (.at ylike0_25 true) (.at ylike0_25 false) (by kernel_rfl) (by kernel_rfl) h
  (fun h => by_way ylike0_20 (.at ylike0_20 true) (.at ylike0_20 false) (by kernel_rfl) (by kernel_rfl) h
  (fun h => by_way (.le (.c (-128)) (.shr ylike0_4 56)) (.ge (.shr ylike0_4 56) (-128)) (.le (.shr ylike0_4 56) (-129)) (by kernel_rfl) (by kernel_rfl) h
  (fun h => by_way (.lt (.shr ylike0_4 56) (.c 128)) (.le (.shr ylike0_4 56) 127) (.ge (.shr ylike0_4 56) 128) (by kernel_rfl) (by kernel_rfl) h
  (fun h => by_way (.le (.c 0) (.wrap .i64 ylike0_3)) (.ge (.wrap .i64 ylike0_3) 0) (.le (.wrap .i64 ylike0_3) (-1)) (by kernel_rfl) (by kernel_rfl) h
  (fun h => by_way (.lt (.wrap .i64 ylike0_3) (.c 256)) (.le (.wrap .i64 ylike0_3) 255) (.ge (.wrap .i64 ylike0_3) 256) (by kernel_rfl) (by kernel_rfl) h
  (fun h => by_way (.eq ylike0_12 (.c 0)) (.is ylike0_12 0) (.ne ylike0_12 0) (by kernel_rfl) (by kernel_rfl) h
  (fun h => by_way (.eq ylike0_24 (.c 0)) (.is ylike0_24 0) (.ne ylike0_24 0) (by kernel_rfl) (by kernel_rfl) h
  (fun h => like0_110 val h)
  (fun h => like0_111 val h))
  (fun h => like0_112 val h))
  (fun h => like0_113 val h))
  (fun h => like0_114 val h))
  (fun h => like0_115 val h))
  (fun h => like0_116 val h))
  (fun h => like0_117 val h))
  (fun h => like0_118 val h))
  (fun h => like0_119 val h))
  (fun h => like0Sub15 val h)

theorem like0Sub13 (val : Nat → Int) (h : Holds val [.at ylike0_15 true, .at ylike0_14 false, .at ylike0_9 true, .at ylike0_21 false, .is ylike0_2 0, .ge (.a 0) (-9223372036854775808), .le (.a 0) 9223372036854775807]) : LikeQ val :=
  by_way ylike0_13 (.at ylike0_13 true) (.at ylike0_13 false) (by kernel_rfl) (by kernel_rfl) h
  (fun h => like0Sub14 val h)
  (fun h => like0_137 val h)

theorem like0Sub12 (val : Nat → Int) (h : Holds val [.at ylike0_14 false, .at ylike0_9 true, .at ylike0_21 false, .is ylike0_2 0, .ge (.a 0) (-9223372036854775808), .le (.a 0) 9223372036854775807]) : LikeQ val :=
  by_way ylike0_15 (.at ylike0_15 true) (.at ylike0_15 false) (by kernel_rfl) (by kernel_rfl) h
  (fun h => like0Sub13 val h)
  (fun h => by_way (.eq (.c 0) (.shr ylike0_4 56)) (.is (.shr ylike0_4 56) 0) (.ne (.shr ylike0_4 56) 0) (by kernel_rfl) (by kernel_rfl) h
  (fun h => by_way (.eq (.a 0) (.c 0)) (.is (.a 0) 0) (.ne (.a 0) 0) (by kernel_rfl) (by kernel_rfl) h
  (fun h => like0_138 val h)
  (fun h => by_way (.lt (.a 0) (.c (-128))) (.le (.a 0) (-129)) (.ge (.a 0) (-128)) (by kernel_rfl) (by kernel_rfl) h
  (fun h => like0_139 val h)
  (fun h => by_way (.le (.c 256) (.a 0)) (.ge (.a 0) 256) (.le (.a 0) 255) (by kernel_rfl) (by kernel_rfl) h
  (fun h => like0_140 val h)
  (fun h => like0_141 val h))))
  (fun h => like0_142 val h))

theorem like0 (val : Nat → Int) (h : Holds val [.is ylike0_2 0, .ge (.a 0) (-9223372036854775808), .le (.a 0) 9223372036854775807]) : LikeQ val :=
  by_way ylike0_21 (.at ylike0_21 true) (.at ylike0_21 false) (by kernel_rfl) (by kernel_rfl) h
  (fun h => by_way ylike0_14 (.at ylike0_14 true) (.at ylike0_14 false) (by kernel_rfl) (by kernel_rfl) h
  (fun h => like0Sub0 val h)
  (fun h => like0Sub3 val h))
  (fun h => by_way ylike0_9 (.at ylike0_9 true) (.at ylike0_9 false) (by kernel_rfl) (by kernel_rfl) h
  (fun h => by_way ylike0_14 (.at ylike0_14 true) (.at ylike0_14 false) (by kernel_rfl) (by kernel_rfl) h
  (fun h => like0Sub9 val h)
  (fun h => like0Sub12 val h))
  (fun h => by_way (.lt (.a 0) (.c (-128))) (.le (.a 0) (-129)) (.ge (.a 0) (-128)) (by kernel_rfl) (by kernel_rfl) h
  (fun h => like0_143 val h)
  (fun h => by_way (.le (.c 256) (.a 0)) (.ge (.a 0) 256) (.le (.a 0) 255) (by kernel_rfl) (by kernel_rfl) h
  (fun h => like0_144 val h)
  (fun h => like0_145 val h))))

abbrev ylike3_0 : SX := .shl (.wrap .u64 (.a 0)) 0
abbrev ylike3_1 : SX := .add (.rem (.a 1) 4) (.c 4)
abbrev ylike3_2 : SX := .shr (.wrap .u64 ylike3_0) 0
abbrev ylike3_3 : SX := .rem (.wrap .i64 ylike3_1) 4
abbrev ylike3_4 : SB := .eq (.wrap .i64 ylike3_2) (.a 0)
abbrev ylike3_5 : SX := .wrap .i64 (.wrap .u64 ylike3_0)
abbrev ylike3_6 : SB := .eq (.shr ylike3_5 0) (.a 0)
abbrev ylike3_7 : SB := .eq (.a 0) (.shr ylike3_5 0)
abbrev ylike3_8 : SB := .eq (.a 0) (.wrap .i64 ylike3_2)

theorem like3_0 (val : Nat → Int) (h : Holds val [.at ylike3_4 true, .at ylike3_6 true, .at ylike3_8 true, .is ylike3_3 3, .ge (.a 0) (-9223372036854775808), .le (.a 0) 9223372036854775807]) : LikeQ val :=
  leafK h (by kernel_rfl)

theorem like3_1 (val : Nat → Int) (h : Holds val [.at ylike3_4 false, .at ylike3_6 true, .at ylike3_8 true, .is ylike3_3 3, .ge (.a 0) (-9223372036854775808), .le (.a 0) 9223372036854775807]) : LikeQ val := by
  exfalso
  have hb : Holds val (List.drop 3 _) := fun f hf => h f (List.mem_of_mem_drop hf)
  have ha : Holds val (List.take 1 _) := fun f hf => h f (List.mem_of_mem_take hf)
  have hc : Holds val (List.take 2 _) := fun f hf => h f (List.mem_of_mem_take hf)
  simp only [List.take_succ_cons, List.take_zero, List.drop_succ_cons, List.drop_zero, Holds, List.forall_mem_cons, List.not_mem_nil, false_implies, implies_true, and_true, Fact.holds, SB.eval, SX.eval, ylike3_0, ylike3_1, ylike3_2, ylike3_3, ylike3_4, ylike3_5, ylike3_6, ylike3_7, ylike3_8, wrapU, wrapI, fdivP, tmodP, beq_iff_eq, beq_eq_false_iff_ne, decide_eq_true_eq, decide_eq_false_iff_not, ne_eq] at h ha hb hc
  simp only [Int.reducePow] at h ha hb hc
  first | (clear h hc; omega) | (clear h; omega) | omega

theorem like3_2 (val : Nat → Int) (h : Holds val [.at ylike3_6 false, .at ylike3_8 true, .is ylike3_3 3, .ge (.a 0) (-9223372036854775808), .le (.a 0) 9223372036854775807]) : LikeQ val := by
  exfalso
  have hb : Holds val (List.drop 2 _) := fun f hf => h f (List.mem_of_mem_drop hf)
  have ha : Holds val (List.take 1 _) := fun f hf => h f (List.mem_of_mem_take hf)
  have hc : Holds val (List.take 2 _) := fun f hf => h f (List.mem_of_mem_take hf)
  simp only [List.take_succ_cons, List.take_zero, List.drop_succ_cons, List.drop_zero, Holds, List.forall_mem_cons, List.not_mem_nil, false_implies, implies_true, and_true, Fact.holds, SB.eval, SX.eval, ylike3_0, ylike3_1, ylike3_2, ylike3_3, ylike3_4, ylike3_5, ylike3_6, ylike3_7, ylike3_8, wrapU, wrapI, fdivP, tmodP, beq_iff_eq, beq_eq_false_iff_ne, decide_eq_true_eq, decide_eq_false_iff_not, ne_eq] at h ha hb hc
  simp only [Int.reducePow] at h ha hb hc
  first | (clear h hc; omega) | (clear h; omega) | omega

theorem like3_3 (val : Nat → Int) (h : Holds val [.at ylike3_4 true, .at ylike3_6 true, .at ylike3_7 true, .at ylike3_8 false, .is ylike3_3 3, .ge (.a 0) (-9223372036854775808), .le (.a 0) 9223372036854775807]) : LikeQ val :=
  leafK h (by kernel_rfl)

theorem like3_4 (val : Nat → Int) (h : Holds val [.at ylike3_4 false, .at ylike3_6 true, .at ylike3_7 true, .at ylike3_8 false, .is ylike3_3 3, .ge (.a 0) (-9223372036854775808), .le (.a 0) 9223372036854775807]) : LikeQ val := by
  exfalso
  have hb : Holds val (List.drop 4 _) := fun f hf => h f (List.mem_of_mem_drop hf)
  have ha : Holds val (List.take 1 _) := fun f hf => h f (List.mem_of_mem_take hf)
  have hc : Holds val (List.take 2 _) := fun f hf => h f (List.mem_of_mem_take hf)
  simp only [List.take_succ_cons, List.take_zero, List.drop_succ_cons, List.drop_zero, Holds, List.forall_mem_cons, List.not_mem_nil, false_implies, implies_true, and_true, Fact.holds, SB.eval, SX.eval, ylike3_0, ylike3_1, ylike3_2, ylike3_3, ylike3_4, ylike3_5, ylike3_6, ylike3_7, ylike3_8, wrapU, wrapI, fdivP, tmodP, beq_iff_eq, beq_eq_false_iff_ne, decide_eq_true_eq, decide_eq_false_iff_not, ne_eq] at h ha hb hc
  simp only [Int.reducePow] at h ha hb hc
  first | (clear h hc; omega) | (clear h; omega) | omega

theorem like3_5 (val : Nat → Int) (h : Holds val [.at ylike3_6 false, .at ylike3_7 true, .at ylike3_8 false, .is ylike3_3 3, .ge (.a 0) (-9223372036854775808), .le (.a 0) 9223372036854775807]) : LikeQ val := by
  exfalso
  have hb : Holds val (List.drop 3 _) := fun f hf => h f (List.mem_of_mem_drop hf)
  have ha : Holds val (List.take 1 _) := fun f hf => h f (List.mem_of_mem_take hf)
  have hc : Holds val (List.take 2 _) := fun f hf => h f (List.mem_of_mem_take hf)
  simp only [List.take_succ_cons, List.take_zero, List.drop_succ_cons, List.drop_zero, Holds, List.forall_mem_cons, List.not_mem_nil, false_implies, implies_true, and_true, Fact.holds, SB.eval, SX.eval, ylike3_0, ylike3_1, ylike3_2, ylike3_3, ylike3_4, ylike3_5, ylike3_6, ylike3_7, ylike3_8, wrapU, wrapI, fdivP, tmodP, beq_iff_eq, beq_eq_false_iff_ne, decide_eq_true_eq, decide_eq_false_iff_not, ne_eq] at h ha hb hc
  simp only [Int.reducePow] at h ha hb hc
  first | (clear h hc; omega) | (clear h; omega) | omega

theorem like3_6 (val : Nat → Int) (h : Holds val [.at ylike3_7 false, .at ylike3_8 false, .is ylike3_3 3, .ge (.a 0) (-9223372036854775808), .le (.a 0) 9223372036854775807]) : LikeQ val := by
  exfalso
  have hb : Holds val (List.drop 2 _) := fun f hf => h f (List.mem_of_mem_drop hf)
  have ha : Holds val (List.take 1 _) := fun f hf => h f (List.mem_of_mem_take hf)
  have hc : Holds val (List.take 2 _) := fun f hf => h f (List.mem_of_mem_take hf)
  simp only [List.take_succ_cons, List.take_zero, List.drop_succ_cons, List.drop_zero, Holds, List.forall_mem_cons, List.not_mem_nil, false_implies, implies_true, and_true, Fact.holds, SB.eval, SX.eval, ylike3_0, ylike3_1, ylike3_2, ylike3_3, ylike3_4, ylike3_5, ylike3_6, ylike3_7, ylike3_8, wrapU, wrapI, fdivP, tmodP, beq_iff_eq, beq_eq_false_iff_ne, decide_eq_true_eq, decide_eq_false_iff_not, ne_eq] at h ha hb hc
  simp only [Int.reducePow] at h ha hb hc
  first | (clear h hc; omega) | (clear h; omega) | omega


theorem like3 (val : Nat → Int) (h : Holds val [.is ylike3_3 3, .ge (.a 0) (-9223372036854775808), .le (.a 0) 9223372036854775807]) : LikeQ val :=
  by_way ylike3_8 (.at ylike3_8 true) (.at ylike3_8 false) (by kernel_rfl) (by kernel_rfl) h
  (fun h => by_way ylike3_6 (.at ylike3_6 true) (.at ylike3_6 false) (by kernel_rfl) (by kernel_rfl) h
  (fun h => by_way ylike3_4 (.at ylike3_4 true) (.at ylike3_4 false) (by kernel_rfl) (by kernel_rfl) h
  (fun h => like3_0 val h)
  (fun h => like3_1 val h))
  (fun h => like3_2 val h))
  (fun h => by_way ylike3_7 (.at ylike3_7 true) (.at ylike3_7 false) (by kernel_rfl) (by kernel_rfl) h
  (fun h => by_way ylike3_6 (.at ylike3_6 true) (.at ylike3_6 false) (by kernel_rfl) (by kernel_rfl) h
  (fun h => by_way ylike3_4 (.at ylike3_4 true) (.at ylike3_4 false) (by kernel_rfl) (by kernel_rfl) h
  (fun h => like3_3 val h)
  (fun h => like3_4 val h))
  (fun h => like3_5 val h))
  (fun h => like3_6 val h))

end Go.Proofs.Ytclhjdddakmafaa.Tab
