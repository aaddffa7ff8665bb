/-
  Ways through the code, part 1.
-/
import Derived.Test.YtclhjdddakmafaaImmH
namespace Go.Proofs.Ytclhjdddakmafaa.Tab
open Go.Sim
set_option maxRecDepth 100000
set_option linter.unusedSimpArgs false
set_option maxHeartbeats 2000000

abbrev ylike1_0 : SX := .shl (.wrap .u64 (.a 0)) 48
abbrev ylike1_1 : SX := .add (.rem (.a 1) 4) (.c 4)
abbrev ylike1_2 : SX := .rem (.wrap .i64 ylike1_1) 4
abbrev ylike1_3 : SX := .shr (.wrap .u64 ylike1_0) 48
abbrev ylike1_4 : SX := .wrap .i64 (.wrap .u64 ylike1_0)
abbrev ylike1_5 : SX := .wrap .u64 (.shr ylike1_4 48)
abbrev ylike1_6 : SX := .wrap .u64 (.shl ylike1_5 48)
abbrev ylike1_7 : SX := .wrap .i64 (.shr ylike1_6 48)
abbrev ylike1_8 : SX := .shr (.wrap .i64 ylike1_6) 48
abbrev ylike1_9 : SB := .eq (.a 0) (.shr ylike1_4 48)
abbrev ylike1_10 : SB := .eq (.shr ylike1_4 48) (.c 0)
abbrev ylike1_11 : SX := .sub (.shr ylike1_4 48) (.a 0)
abbrev ylike1_12 : SB := .eq ylike1_8 (.shr ylike1_4 48)
abbrev ylike1_13 : SB := .eq (.shr ylike1_4 48) ylike1_7
abbrev ylike1_14 : SB := .eq (.shr ylike1_4 48) ylike1_8
abbrev ylike1_15 : SX := .wrap .u64 (.wrap .i64 ylike1_3)
abbrev ylike1_16 : SX := .wrap .u64 (.shl ylike1_15 48)
abbrev ylike1_17 : SX := .shr (.wrap .i64 ylike1_16) 48
abbrev ylike1_18 : SX := .wrap .i64 (.shr ylike1_16 48)
abbrev ylike1_19 : SB := .eq ylike1_17 (.shr ylike1_4 48)
abbrev ylike1_20 : SB := .eq (.a 0) (.wrap .i64 ylike1_3)
abbrev ylike1_21 : SB := .eq (.c 0) (.wrap .i64 ylike1_3)
abbrev ylike1_22 : SX := .sub (.wrap .i64 ylike1_3) (.a 0)
abbrev ylike1_23 : SX := .rem (.wrap .i64 ylike1_22) 65536
abbrev ylike1_24 : SX := .rem (.wrap .i64 ylike1_11) 65536
abbrev ylike1_25 : SB := .eq ylike1_7 (.wrap .i64 ylike1_3)
abbrev ylike1_26 : SB := .eq ylike1_18 (.wrap .i64 ylike1_3)
abbrev ylike1_27 : SB := .eq (.wrap .i64 ylike1_3) ylike1_18
abbrev ylike1_28 : SB := .eq (.wrap .i64 ylike1_3) ylike1_17

theorem like1_0 (val : Nat → Int) (h : Holds val [.is ylike1_23 0, .is ylike1_24 0, .le (.wrap .i64 ylike1_3) 65535, .ge (.wrap .i64 ylike1_3) 0, .le (.shr ylike1_4 48) 32767, .ge (.shr ylike1_4 48) (-32768), .at ylike1_19 true, .at ylike1_25 true, .at ylike1_26 true, .at ylike1_27 true, .at ylike1_12 true, .at ylike1_13 true, .at ylike1_20 true, .is ylike1_2 1, .ge (.a 0) (-9223372036854775808), .le (.a 0) 9223372036854775807]) : LikeQ val :=
  leafK h (by kernel_rfl)

theorem like1_1 (val : Nat → Int) (h : Holds val [.ne ylike1_23 0, .is ylike1_24 0, .le (.wrap .i64 ylike1_3) 65535, .ge (.wrap .i64 ylike1_3) 0, .le (.shr ylike1_4 48) 32767, .ge (.shr ylike1_4 48) (-32768), .at ylike1_19 true, .at ylike1_25 true, .at ylike1_26 true, .at ylike1_27 true, .at ylike1_12 true, .at ylike1_13 true, .at ylike1_20 true, .is ylike1_2 1, .ge (.a 0) (-9223372036854775808), .le (.a 0) 9223372036854775807]) : LikeQ val := by
  exfalso
  have hb : Holds val (List.drop 13 _) := fun f hf => h f (List.mem_of_mem_drop hf)
  have ha : Holds val (List.take 1 _) := fun f hf => h f (List.mem_of_mem_take hf)
  have hc : Holds val (List.take 2 _) := fun f hf => h f (List.mem_of_mem_take hf)
  simp only [List.take_succ_cons, List.take_zero, List.drop_succ_cons, List.drop_zero, Holds, List.forall_mem_cons, List.not_mem_nil, false_implies, implies_true, and_true, Fact.holds, SB.eval, SX.eval, ylike1_0, ylike1_1, ylike1_2, ylike1_3, ylike1_4, ylike1_5, ylike1_6, ylike1_7, ylike1_8, ylike1_9, ylike1_10, ylike1_11, ylike1_12, ylike1_13, ylike1_14, ylike1_15, ylike1_16, ylike1_17, ylike1_18, ylike1_19, ylike1_20, ylike1_21, ylike1_22, ylike1_23, ylike1_24, ylike1_25, ylike1_26, ylike1_27, ylike1_28, wrapU, wrapI, fdivP, tmodP, beq_iff_eq, beq_eq_false_iff_ne, decide_eq_true_eq, decide_eq_false_iff_not, ne_eq] at h ha hb hc
  simp only [Int.reducePow] at h ha hb hc
  first | (clear h hc; omega) | (clear h; omega) | omega

theorem like1_2 (val : Nat → Int) (h : Holds val [.ne ylike1_24 0, .le (.wrap .i64 ylike1_3) 65535, .ge (.wrap .i64 ylike1_3) 0, .le (.shr ylike1_4 48) 32767, .ge (.shr ylike1_4 48) (-32768), .at ylike1_19 true, .at ylike1_25 true, .at ylike1_26 true, .at ylike1_27 true, .at ylike1_12 true, .at ylike1_13 true, .at ylike1_20 true, .is ylike1_2 1, .ge (.a 0) (-9223372036854775808), .le (.a 0) 9223372036854775807]) : LikeQ val := by
  exfalso
  have hb : Holds val (List.drop 12 _) := fun f hf => h f (List.mem_of_mem_drop hf)
  have ha : Holds val (List.take 1 _) := fun f hf => h f (List.mem_of_mem_take hf)
  have hc : Holds val (List.take 2 _) := fun f hf => h f (List.mem_of_mem_take hf)
  simp only [List.take_succ_cons, List.take_zero, List.drop_succ_cons, List.drop_zero, Holds, List.forall_mem_cons, List.not_mem_nil, false_implies, implies_true, and_true, Fact.holds, SB.eval, SX.eval, ylike1_0, ylike1_1, ylike1_2, ylike1_3, ylike1_4, ylike1_5, ylike1_6, ylike1_7, ylike1_8, ylike1_9, ylike1_10, ylike1_11, ylike1_12, ylike1_13, ylike1_14, ylike1_15, ylike1_16, ylike1_17, ylike1_18, ylike1_19, ylike1_20, ylike1_21, ylike1_22, ylike1_23, ylike1_24, ylike1_25, ylike1_26, ylike1_27, ylike1_28, wrapU, wrapI, fdivP, tmodP, beq_iff_eq, beq_eq_false_iff_ne, decide_eq_true_eq, decide_eq_false_iff_not, ne_eq] at h ha hb hc
  simp only [Int.reducePow] at h ha hb hc
  first | (clear h hc; omega) | (clear h; omega) | omega

theorem like1_3 (val : Nat → Int) (h : Holds val [.ge (.wrap .i64 ylike1_3) 65536, .ge (.wrap .i64 ylike1_3) 0, .le (.shr ylike1_4 48) 32767, .ge (.shr ylike1_4 48) (-32768), .at ylike1_19 true, .at ylike1_25 true, .at ylike1_26 true, .at ylike1_27 true, .at ylike1_12 true, .at ylike1_13 true, .at ylike1_20 true, .is ylike1_2 1, .ge (.a 0) (-9223372036854775808), .le (.a 0) 9223372036854775807]) : LikeQ val := by
  exfalso
  have hb : Holds val (List.drop 11 _) := fun f hf => h f (List.mem_of_mem_drop hf)
  have ha : Holds val (List.take 1 _) := fun f hf => h f (List.mem_of_mem_take hf)
  have hc : Holds val (List.take 2 _) := fun f hf => h f (List.mem_of_mem_take hf)
  simp only [List.take_succ_cons, List.take_zero, List.drop_succ_cons, List.drop_zero, Holds, List.forall_mem_cons, List.not_mem_nil, false_implies, implies_true, and_true, Fact.holds, SB.eval, SX.eval, ylike1_0, ylike1_1, ylike1_2, ylike1_3, ylike1_4, ylike1_5, ylike1_6, ylike1_7, ylike1_8, ylike1_9, ylike1_10, ylike1_11, ylike1_12, ylike1_13, ylike1_14, ylike1_15, ylike1_16, ylike1_17, ylike1_18, ylike1_19, ylike1_20, ylike1_21, ylike1_22, ylike1_23, ylike1_24, ylike1_25, ylike1_26, ylike1_27, ylike1_28, wrapU, wrapI, fdivP, tmodP, beq_iff_eq, beq_eq_false_iff_ne, decide_eq_true_eq, decide_eq_false_iff_not, ne_eq] at h ha hb hc
  simp only [Int.reducePow] at h ha hb hc
  first | (clear h hc; omega) | (clear h; omega) | omega

theorem like1_4 (val : Nat → Int) (h : Holds val [.le (.wrap .i64 ylike1_3) (-1), .le (.shr ylike1_4 48) 32767, .ge (.shr ylike1_4 48) (-32768), .at ylike1_19 true, .at ylike1_25 true, .at ylike1_26 true, .at ylike1_27 true, .at ylike1_12 true, .at ylike1_13 true, .at ylike1_20 true, .is ylike1_2 1, .ge (.a 0) (-9223372036854775808), .le (.a 0) 9223372036854775807]) : LikeQ val := by
  exfalso
  have hb : Holds val (List.drop 10 _) := fun f hf => h f (List.mem_of_mem_drop hf)
  have ha : Holds val (List.take 1 _) := fun f hf => h f (List.mem_of_mem_take hf)
  have hc : Holds val (List.take 2 _) := fun f hf => h f (List.mem_of_mem_take hf)
  simp only [List.take_succ_cons, List.take_zero, List.drop_succ_cons, List.drop_zero, Holds, List.forall_mem_cons, List.not_mem_nil, false_implies, implies_true, and_true, Fact.holds, SB.eval, SX.eval, ylike1_0, ylike1_1, ylike1_2, ylike1_3, ylike1_4, ylike1_5, ylike1_6, ylike1_7, ylike1_8, ylike1_9, ylike1_10, ylike1_11, ylike1_12, ylike1_13, ylike1_14, ylike1_15, ylike1_16, ylike1_17, ylike1_18, ylike1_19, ylike1_20, ylike1_21, ylike1_22, ylike1_23, ylike1_24, ylike1_25, ylike1_26, ylike1_27, ylike1_28, wrapU, wrapI, fdivP, tmodP, beq_iff_eq, beq_eq_false_iff_ne, decide_eq_true_eq, decide_eq_false_iff_not, ne_eq] at h ha hb hc
  simp only [Int.reducePow] at h ha hb hc
  first | (clear h hc; omega) | (clear h; omega) | omega

theorem like1_5 (val : Nat → Int) (h : Holds val [.ge (.shr ylike1_4 48) 32768, .ge (.shr ylike1_4 48) (-32768), .at ylike1_19 true, .at ylike1_25 true, .at ylike1_26 true, .at ylike1_27 true, .at ylike1_12 true, .at ylike1_13 true, .at ylike1_20 true, .is ylike1_2 1, .ge (.a 0) (-9223372036854775808), .le (.a 0) 9223372036854775807]) : LikeQ val := by
  exfalso
  have hb : Holds val (List.drop 9 _) := fun f hf => h f (List.mem_of_mem_drop hf)
  have ha : Holds val (List.take 1 _) := fun f hf => h f (List.mem_of_mem_take hf)
  have hc : Holds val (List.take 2 _) := fun f hf => h f (List.mem_of_mem_take hf)
  simp only [List.take_succ_cons, List.take_zero, List.drop_succ_cons, List.drop_zero, Holds, List.forall_mem_cons, List.not_mem_nil, false_implies, implies_true, and_true, Fact.holds, SB.eval, SX.eval, ylike1_0, ylike1_1, ylike1_2, ylike1_3, ylike1_4, ylike1_5, ylike1_6, ylike1_7, ylike1_8, ylike1_9, ylike1_10, ylike1_11, ylike1_12, ylike1_13, ylike1_14, ylike1_15, ylike1_16, ylike1_17, ylike1_18, ylike1_19, ylike1_20, ylike1_21, ylike1_22, ylike1_23, ylike1_24, ylike1_25, ylike1_26, ylike1_27, ylike1_28, wrapU, wrapI, fdivP, tmodP, beq_iff_eq, beq_eq_false_iff_ne, decide_eq_true_eq, decide_eq_false_iff_not, ne_eq] at h ha hb hc
  simp only [Int.reducePow] at h ha hb hc
  first | (clear h hc; omega) | (clear h; omega) | omega

theorem like1_6 (val : Nat → Int) (h : Holds val [.le (.shr ylike1_4 48) (-32769), .at ylike1_19 true, .at ylike1_25 true, .at ylike1_26 true, .at ylike1_27 true, .at ylike1_12 true, .at ylike1_13 true, .at ylike1_20 true, .is ylike1_2 1, .ge (.a 0) (-9223372036854775808), .le (.a 0) 9223372036854775807]) : LikeQ val := by
  exfalso
  have hb : Holds val (List.drop 8 _) := fun f hf => h f (List.mem_of_mem_drop hf)
  have ha : Holds val (List.take 1 _) := fun f hf => h f (List.mem_of_mem_take hf)
  have hc : Holds val (List.take 2 _) := fun f hf => h f (List.mem_of_mem_take hf)
  simp only [List.take_succ_cons, List.take_zero, List.drop_succ_cons, List.drop_zero, Holds, List.forall_mem_cons, List.not_mem_nil, false_implies, implies_true, and_true, Fact.holds, SB.eval, SX.eval, ylike1_0, ylike1_1, ylike1_2, ylike1_3, ylike1_4, ylike1_5, ylike1_6, ylike1_7, ylike1_8, ylike1_9, ylike1_10, ylike1_11, ylike1_12, ylike1_13, ylike1_14, ylike1_15, ylike1_16, ylike1_17, ylike1_18, ylike1_19, ylike1_20, ylike1_21, ylike1_22, ylike1_23, ylike1_24, ylike1_25, ylike1_26, ylike1_27, ylike1_28, wrapU, wrapI, fdivP, tmodP, beq_iff_eq, beq_eq_false_iff_ne, decide_eq_true_eq, decide_eq_false_iff_not, ne_eq] at h ha hb hc
  simp only [Int.reducePow] at h ha hb hc
  first | (clear h hc; omega) | (clear h; omega) | omega

theorem like1_7 (val : Nat → Int) (h : Holds val [.at ylike1_19 false, .at ylike1_25 true, .at ylike1_26 true, .at ylike1_27 true, .at ylike1_12 true, .at ylike1_13 true, .at ylike1_20 true, .is ylike1_2 1, .ge (.a 0) (-9223372036854775808), .le (.a 0) 9223372036854775807]) : LikeQ val := by
  exfalso
  have hb : Holds val (List.drop 7 _) := fun f hf => h f (List.mem_of_mem_drop hf)
  have ha : Holds val (List.take 1 _) := fun f hf => h f (List.mem_of_mem_take hf)
  have hc : Holds val (List.take 2 _) := fun f hf => h f (List.mem_of_mem_take hf)
  simp only [List.take_succ_cons, List.take_zero, List.drop_succ_cons, List.drop_zero, Holds, List.forall_mem_cons, List.not_mem_nil, false_implies, implies_true, and_true, Fact.holds, SB.eval, SX.eval, ylike1_0, ylike1_1, ylike1_2, ylike1_3, ylike1_4, ylike1_5, ylike1_6, ylike1_7, ylike1_8, ylike1_9, ylike1_10, ylike1_11, ylike1_12, ylike1_13, ylike1_14, ylike1_15, ylike1_16, ylike1_17, ylike1_18, ylike1_19, ylike1_20, ylike1_21, ylike1_22, ylike1_23, ylike1_24, ylike1_25, ylike1_26, ylike1_27, ylike1_28, wrapU, wrapI, fdivP, tmodP, beq_iff_eq, beq_eq_false_iff_ne, decide_eq_true_eq, decide_eq_false_iff_not, ne_eq] at h ha hb hc
  simp only [Int.reducePow] at h ha hb hc
  first | (clear h hc; omega) | (clear h; omega) | omega

theorem like1_8 (val : Nat → Int) (h : Holds val [.at ylike1_25 false, .at ylike1_26 true, .at ylike1_27 true, .at ylike1_12 true, .at ylike1_13 true, .at ylike1_20 true, .is ylike1_2 1, .ge (.a 0) (-9223372036854775808), .le (.a 0) 9223372036854775807]) : LikeQ val := by
  exfalso
  have hb : Holds val (List.drop 6 _) := fun f hf => h f (List.mem_of_mem_drop hf)
  have ha : Holds val (List.take 1 _) := fun f hf => h f (List.mem_of_mem_take hf)
  have hc : Holds val (List.take 2 _) := fun f hf => h f (List.mem_of_mem_take hf)
  simp only [List.take_succ_cons, List.take_zero, List.drop_succ_cons, List.drop_zero, Holds, List.forall_mem_cons, List.not_mem_nil, false_implies, implies_true, and_true, Fact.holds, SB.eval, SX.eval, ylike1_0, ylike1_1, ylike1_2, ylike1_3, ylike1_4, ylike1_5, ylike1_6, ylike1_7, ylike1_8, ylike1_9, ylike1_10, ylike1_11, ylike1_12, ylike1_13, ylike1_14, ylike1_15, ylike1_16, ylike1_17, ylike1_18, ylike1_19, ylike1_20, ylike1_21, ylike1_22, ylike1_23, ylike1_24, ylike1_25, ylike1_26, ylike1_27, ylike1_28, wrapU, wrapI, fdivP, tmodP, beq_iff_eq, beq_eq_false_iff_ne, decide_eq_true_eq, decide_eq_false_iff_not, ne_eq] at h ha hb hc
  simp only [Int.reducePow] at h ha hb hc
  first | (clear h hc; omega) | (clear h; omega) | omega

theorem like1_9 (val : Nat → Int) (h : Holds val [.at ylike1_26 false, .at ylike1_27 true, .at ylike1_12 true, .at ylike1_13 true, .at ylike1_20 true, .is ylike1_2 1, .ge (.a 0) (-9223372036854775808), .le (.a 0) 9223372036854775807]) : LikeQ val := by
  exfalso
  have hb : Holds val (List.drop 5 _) := fun f hf => h f (List.mem_of_mem_drop hf)
  have ha : Holds val (List.take 1 _) := fun f hf => h f (List.mem_of_mem_take hf)
  have hc : Holds val (List.take 2 _) := fun f hf => h f (List.mem_of_mem_take hf)
  simp only [List.take_succ_cons, List.take_zero, List.drop_succ_cons, List.drop_zero, Holds, List.forall_mem_cons, List.not_mem_nil, false_implies, implies_true, and_true, Fact.holds, SB.eval, SX.eval, ylike1_0, ylike1_1, ylike1_2, ylike1_3, ylike1_4, ylike1_5, ylike1_6, ylike1_7, ylike1_8, ylike1_9, ylike1_10, ylike1_11, ylike1_12, ylike1_13, ylike1_14, ylike1_15, ylike1_16, ylike1_17, ylike1_18, ylike1_19, ylike1_20, ylike1_21, ylike1_22, ylike1_23, ylike1_24, ylike1_25, ylike1_26, ylike1_27, ylike1_28, wrapU, wrapI, fdivP, tmodP, beq_iff_eq, beq_eq_false_iff_ne, decide_eq_true_eq, decide_eq_false_iff_not, ne_eq] at h ha hb hc
  simp only [Int.reducePow] at h ha hb hc
  first | (clear h hc; omega) | (clear h; omega) | omega

theorem like1_10 (val : Nat → Int) (h : Holds val [.is ylike1_23 0, .is ylike1_24 0, .le (.wrap .i64 ylike1_3) 65535, .ge (.wrap .i64 ylike1_3) 0, .le (.shr ylike1_4 48) 32767, .ge (.shr ylike1_4 48) (-32768), .at ylike1_19 true, .at ylike1_25 true, .at ylike1_26 true, .at ylike1_28 true, .at ylike1_27 false, .at ylike1_12 true, .at ylike1_13 true, .at ylike1_20 true, .is ylike1_2 1, .ge (.a 0) (-9223372036854775808), .le (.a 0) 9223372036854775807]) : LikeQ val :=
  leafK h (by kernel_rfl)

theorem like1_11 (val : Nat → Int) (h : Holds val [.ne ylike1_23 0, .is ylike1_24 0, .le (.wrap .i64 ylike1_3) 65535, .ge (.wrap .i64 ylike1_3) 0, .le (.shr ylike1_4 48) 32767, .ge (.shr ylike1_4 48) (-32768), .at ylike1_19 true, .at ylike1_25 true, .at ylike1_26 true, .at ylike1_28 true, .at ylike1_27 false, .at ylike1_12 true, .at ylike1_13 true, .at ylike1_20 true, .is ylike1_2 1, .ge (.a 0) (-9223372036854775808), .le (.a 0) 9223372036854775807]) : LikeQ val := by
  exfalso
  have hb : Holds val (List.drop 14 _) := fun f hf => h f (List.mem_of_mem_drop hf)
  have ha : Holds val (List.take 1 _) := fun f hf => h f (List.mem_of_mem_take hf)
  have hc : Holds val (List.take 2 _) := fun f hf => h f (List.mem_of_mem_take hf)
  simp only [List.take_succ_cons, List.take_zero, List.drop_succ_cons, List.drop_zero, Holds, List.forall_mem_cons, List.not_mem_nil, false_implies, implies_true, and_true, Fact.holds, SB.eval, SX.eval, ylike1_0, ylike1_1, ylike1_2, ylike1_3, ylike1_4, ylike1_5, ylike1_6, ylike1_7, ylike1_8, ylike1_9, ylike1_10, ylike1_11, ylike1_12, ylike1_13, ylike1_14, ylike1_15, ylike1_16, ylike1_17, ylike1_18, ylike1_19, ylike1_20, ylike1_21, ylike1_22, ylike1_23, ylike1_24, ylike1_25, ylike1_26, ylike1_27, ylike1_28, wrapU, wrapI, fdivP, tmodP, beq_iff_eq, beq_eq_false_iff_ne, decide_eq_true_eq, decide_eq_false_iff_not, ne_eq] at h ha hb hc
  simp only [Int.reducePow] at h ha hb hc
  first | (clear h hc; omega) | (clear h; omega) | omega

theorem like1_12 (val : Nat → Int) (h : Holds val [.ne ylike1_24 0, .le (.wrap .i64 ylike1_3) 65535, .ge (.wrap .i64 ylike1_3) 0, .le (.shr ylike1_4 48) 32767, .ge (.shr ylike1_4 48) (-32768), .at ylike1_19 true, .at ylike1_25 true, .at ylike1_26 true, .at ylike1_28 true, .at ylike1_27 false, .at ylike1_12 true, .at ylike1_13 true, .at ylike1_20 true, .is ylike1_2 1, .ge (.a 0) (-9223372036854775808), .le (.a 0) 9223372036854775807]) : LikeQ val := by
  exfalso
  have hb : Holds val (List.drop 13 _) := fun f hf => h f (List.mem_of_mem_drop hf)
  have ha : Holds val (List.take 1 _) := fun f hf => h f (List.mem_of_mem_take hf)
  have hc : Holds val (List.take 2 _) := fun f hf => h f (List.mem_of_mem_take hf)
  simp only [List.take_succ_cons, List.take_zero, List.drop_succ_cons, List.drop_zero, Holds, List.forall_mem_cons, List.not_mem_nil, false_implies, implies_true, and_true, Fact.holds, SB.eval, SX.eval, ylike1_0, ylike1_1, ylike1_2, ylike1_3, ylike1_4, ylike1_5, ylike1_6, ylike1_7, ylike1_8, ylike1_9, ylike1_10, ylike1_11, ylike1_12, ylike1_13, ylike1_14, ylike1_15, ylike1_16, ylike1_17, ylike1_18, ylike1_19, ylike1_20, ylike1_21, ylike1_22, ylike1_23, ylike1_24, ylike1_25, ylike1_26, ylike1_27, ylike1_28, wrapU, wrapI, fdivP, tmodP, beq_iff_eq, beq_eq_false_iff_ne, decide_eq_true_eq, decide_eq_false_iff_not, ne_eq] at h ha hb hc
  simp only [Int.reducePow] at h ha hb hc
  first | (clear h hc; omega) | (clear h; omega) | omega

theorem like1_13 (val : Nat → Int) (h : Holds val [.ge (.wrap .i64 ylike1_3) 65536, .ge (.wrap .i64 ylike1_3) 0, .le (.shr ylike1_4 48) 32767, .ge (.shr ylike1_4 48) (-32768), .at ylike1_19 true, .at ylike1_25 true, .at ylike1_26 true, .at ylike1_28 true, .at ylike1_27 false, .at ylike1_12 true, .at ylike1_13 true, .at ylike1_20 true, .is ylike1_2 1, .ge (.a 0) (-9223372036854775808), .le (.a 0) 9223372036854775807]) : LikeQ val := by
  exfalso
  have hb : Holds val (List.drop 12 _) := fun f hf => h f (List.mem_of_mem_drop hf)
  have ha : Holds val (List.take 1 _) := fun f hf => h f (List.mem_of_mem_take hf)
  have hc : Holds val (List.take 2 _) := fun f hf => h f (List.mem_of_mem_take hf)
  simp only [List.take_succ_cons, List.take_zero, List.drop_succ_cons, List.drop_zero, Holds, List.forall_mem_cons, List.not_mem_nil, false_implies, implies_true, and_true, Fact.holds, SB.eval, SX.eval, ylike1_0, ylike1_1, ylike1_2, ylike1_3, ylike1_4, ylike1_5, ylike1_6, ylike1_7, ylike1_8, ylike1_9, ylike1_10, ylike1_11, ylike1_12, ylike1_13, ylike1_14, ylike1_15, ylike1_16, ylike1_17, ylike1_18, ylike1_19, ylike1_20, ylike1_21, ylike1_22, ylike1_23, ylike1_24, ylike1_25, ylike1_26, ylike1_27, ylike1_28, wrapU, wrapI, fdivP, tmodP, beq_iff_eq, beq_eq_false_iff_ne, decide_eq_true_eq, decide_eq_false_iff_not, ne_eq] at h ha hb hc
  simp only [Int.reducePow] at h ha hb hc
  first | (clear h hc; omega) | (clear h; omega) | omega

theorem like1_14 (val : Nat → Int) (h : Holds val [.le (.wrap .i64 ylike1_3) (-1), .le (.shr ylike1_4 48) 32767, .ge (.shr ylike1_4 48) (-32768), .at ylike1_19 true, .at ylike1_25 true, .at ylike1_26 true, .at ylike1_28 true, .at ylike1_27 false, .at ylike1_12 true, .at ylike1_13 true, .at ylike1_20 true, .is ylike1_2 1, .ge (.a 0) (-9223372036854775808), .le (.a 0) 9223372036854775807]) : LikeQ val := by
  exfalso
  have hb : Holds val (List.drop 11 _) := fun f hf => h f (List.mem_of_mem_drop hf)
  have ha : Holds val (List.take 1 _) := fun f hf => h f (List.mem_of_mem_take hf)
  have hc : Holds val (List.take 2 _) := fun f hf => h f (List.mem_of_mem_take hf)
  simp only [List.take_succ_cons, List.take_zero, List.drop_succ_cons, List.drop_zero, Holds, List.forall_mem_cons, List.not_mem_nil, false_implies, implies_true, and_true, Fact.holds, SB.eval, SX.eval, ylike1_0, ylike1_1, ylike1_2, ylike1_3, ylike1_4, ylike1_5, ylike1_6, ylike1_7, ylike1_8, ylike1_9, ylike1_10, ylike1_11, ylike1_12, ylike1_13, ylike1_14, ylike1_15, ylike1_16, ylike1_17, ylike1_18, ylike1_19, ylike1_20, ylike1_21, ylike1_22, ylike1_23, ylike1_24, ylike1_25, ylike1_26, ylike1_27, ylike1_28, wrapU, wrapI, fdivP, tmodP, beq_iff_eq, beq_eq_false_iff_ne, decide_eq_true_eq, decide_eq_false_iff_not, ne_eq] at h ha hb hc
  simp only [Int.reducePow] at h ha hb hc
  first | (clear h hc; omega) | (clear h; omega) | omega

theorem like1_15 (val : Nat → Int) (h : Holds val [.ge (.shr ylike1_4 48) 32768, .ge (.shr ylike1_4 48) (-32768), .at ylike1_19 true, .at ylike1_25 true, .at ylike1_26 true, .at ylike1_28 true, .at ylike1_27 false, .at ylike1_12 true, .at ylike1_13 true, .at ylike1_20 true, .is ylike1_2 1, .ge (.a 0) (-9223372036854775808), .le (.a 0) 9223372036854775807]) : LikeQ val := by
  exfalso
  have hb : Holds val (List.drop 10 _) := fun f hf => h f (List.mem_of_mem_drop hf)
  have ha : Holds val (List.take 1 _) := fun f hf => h f (List.mem_of_mem_take hf)
  have hc : Holds val (List.take 2 _) := fun f hf => h f (List.mem_of_mem_take hf)
  simp only [List.take_succ_cons, List.take_zero, List.drop_succ_cons, List.drop_zero, Holds, List.forall_mem_cons, List.not_mem_nil, false_implies, implies_true, and_true, Fact.holds, SB.eval, SX.eval, ylike1_0, ylike1_1, ylike1_2, ylike1_3, ylike1_4, ylike1_5, ylike1_6, ylike1_7, ylike1_8, ylike1_9, ylike1_10, ylike1_11, ylike1_12, ylike1_13, ylike1_14, ylike1_15, ylike1_16, ylike1_17, ylike1_18, ylike1_19, ylike1_20, ylike1_21, ylike1_22, ylike1_23, ylike1_24, ylike1_25, ylike1_26, ylike1_27, ylike1_28, wrapU, wrapI, fdivP, tmodP, beq_iff_eq, beq_eq_false_iff_ne, decide_eq_true_eq, decide_eq_false_iff_not, ne_eq] at h ha hb hc
  simp only [Int.reducePow] at h ha hb hc
  first | (clear h hc; omega) | (clear h; omega) | omega

theorem like1_16 (val : Nat → Int) (h : Holds val [.le (.shr ylike1_4 48) (-32769), .at ylike1_19 true, .at ylike1_25 true, .at ylike1_26 true, .at ylike1_28 true, .at ylike1_27 false, .at ylike1_12 true, .at ylike1_13 true, .at ylike1_20 true, .is ylike1_2 1, .ge (.a 0) (-9223372036854775808), .le (.a 0) 9223372036854775807]) : LikeQ val := by
  exfalso
  have hb : Holds val (List.drop 9 _) := fun f hf => h f (List.mem_of_mem_drop hf)
  have ha : Holds val (List.take 1 _) := fun f hf => h f (List.mem_of_mem_take hf)
  have hc : Holds val (List.take 2 _) := fun f hf => h f (List.mem_of_mem_take hf)
  simp only [List.take_succ_cons, List.take_zero, List.drop_succ_cons, List.drop_zero, Holds, List.forall_mem_cons, List.not_mem_nil, false_implies, implies_true, and_true, Fact.holds, SB.eval, SX.eval, ylike1_0, ylike1_1, ylike1_2, ylike1_3, ylike1_4, ylike1_5, ylike1_6, ylike1_7, ylike1_8, ylike1_9, ylike1_10, ylike1_11, ylike1_12, ylike1_13, ylike1_14, ylike1_15, ylike1_16, ylike1_17, ylike1_18, ylike1_19, ylike1_20, ylike1_21, ylike1_22, ylike1_23, ylike1_24, ylike1_25, ylike1_26, ylike1_27, ylike1_28, wrapU, wrapI, fdivP, tmodP, beq_iff_eq, beq_eq_false_iff_ne, decide_eq_true_eq, decide_eq_false_iff_not, ne_eq] at h ha hb hc
  simp only [Int.reducePow] at h ha hb hc
  first | (clear h hc; omega) | (clear h; omega) | omega

theorem like1_17 (val : Nat → Int) (h : Holds val [.at ylike1_19 false, .at ylike1_25 true, .at ylike1_26 true, .at ylike1_28 true, .at ylike1_27 false, .at ylike1_12 true, .at ylike1_13 true, .at ylike1_20 true, .is ylike1_2 1, .ge (.a 0) (-9223372036854775808), .le (.a 0) 9223372036854775807]) : LikeQ val := by
  exfalso
  have hb : Holds val (List.drop 8 _) := fun f hf => h f (List.mem_of_mem_drop hf)
  have ha : Holds val (List.take 1 _) := fun f hf => h f (List.mem_of_mem_take hf)
  have hc : Holds val (List.take 2 _) := fun f hf => h f (List.mem_of_mem_take hf)
  simp only [List.take_succ_cons, List.take_zero, List.drop_succ_cons, List.drop_zero, Holds, List.forall_mem_cons, List.not_mem_nil, false_implies, implies_true, and_true, Fact.holds, SB.eval, SX.eval, ylike1_0, ylike1_1, ylike1_2, ylike1_3, ylike1_4, ylike1_5, ylike1_6, ylike1_7, ylike1_8, ylike1_9, ylike1_10, ylike1_11, ylike1_12, ylike1_13, ylike1_14, ylike1_15, ylike1_16, ylike1_17, ylike1_18, ylike1_19, ylike1_20, ylike1_21, ylike1_22, ylike1_23, ylike1_24, ylike1_25, ylike1_26, ylike1_27, ylike1_28, wrapU, wrapI, fdivP, tmodP, beq_iff_eq, beq_eq_false_iff_ne, decide_eq_true_eq, decide_eq_false_iff_not, ne_eq] at h ha hb hc
  simp only [Int.reducePow] at h ha hb hc
  first | (clear h hc; omega) | (clear h; omega) | omega

theorem like1_18 (val : Nat → Int) (h : Holds val [.at ylike1_25 false, .at ylike1_26 true, .at ylike1_28 true, .at ylike1_27 false, .at ylike1_12 true, .at ylike1_13 true, .at ylike1_20 true, .is ylike1_2 1, .ge (.a 0) (-9223372036854775808), .le (.a 0) 9223372036854775807]) : LikeQ val := by
  exfalso
  have hb : Holds val (List.drop 7 _) := fun f hf => h f (List.mem_of_mem_drop hf)
  have ha : Holds val (List.take 1 _) := fun f hf => h f (List.mem_of_mem_take hf)
  have hc : Holds val (List.take 2 _) := fun f hf => h f (List.mem_of_mem_take hf)
  simp only [List.take_succ_cons, List.take_zero, List.drop_succ_cons, List.drop_zero, Holds, List.forall_mem_cons, List.not_mem_nil, false_implies, implies_true, and_true, Fact.holds, SB.eval, SX.eval, ylike1_0, ylike1_1, ylike1_2, ylike1_3, ylike1_4, ylike1_5, ylike1_6, ylike1_7, ylike1_8, ylike1_9, ylike1_10, ylike1_11, ylike1_12, ylike1_13, ylike1_14, ylike1_15, ylike1_16, ylike1_17, ylike1_18, ylike1_19, ylike1_20, ylike1_21, ylike1_22, ylike1_23, ylike1_24, ylike1_25, ylike1_26, ylike1_27, ylike1_28, wrapU, wrapI, fdivP, tmodP, beq_iff_eq, beq_eq_false_iff_ne, decide_eq_true_eq, decide_eq_false_iff_not, ne_eq] at h ha hb hc
  simp only [Int.reducePow] at h ha hb hc
  first | (clear h hc; omega) | (clear h; omega) | omega

theorem like1_19 (val : Nat → Int) (h : Holds val [.at ylike1_26 false, .at ylike1_28 true, .at ylike1_27 false, .at ylike1_12 true, .at ylike1_13 true, .at ylike1_20 true, .is ylike1_2 1, .ge (.a 0) (-9223372036854775808), .le (.a 0) 9223372036854775807]) : LikeQ val := by
  exfalso
  have hb : Holds val (List.drop 6 _) := fun f hf => h f (List.mem_of_mem_drop hf)
  have ha : Holds val (List.take 1 _) := fun f hf => h f (List.mem_of_mem_take hf)
  have hc : Holds val (List.take 2 _) := fun f hf => h f (List.mem_of_mem_take hf)
  simp only [List.take_succ_cons, List.take_zero, List.drop_succ_cons, List.drop_zero, Holds, List.forall_mem_cons, List.not_mem_nil, false_implies, implies_true, and_true, Fact.holds, SB.eval, SX.eval, ylike1_0, ylike1_1, ylike1_2, ylike1_3, ylike1_4, ylike1_5, ylike1_6, ylike1_7, ylike1_8, ylike1_9, ylike1_10, ylike1_11, ylike1_12, ylike1_13, ylike1_14, ylike1_15, ylike1_16, ylike1_17, ylike1_18, ylike1_19, ylike1_20, ylike1_21, ylike1_22, ylike1_23, ylike1_24, ylike1_25, ylike1_26, ylike1_27, ylike1_28, wrapU, wrapI, fdivP, tmodP, beq_iff_eq, beq_eq_false_iff_ne, decide_eq_true_eq, decide_eq_false_iff_not, ne_eq] at h ha hb hc
  simp only [Int.reducePow] at h ha hb hc
  first | (clear h hc; omega) | (clear h; omega) | omega

theorem like1_20 (val : Nat → Int) (h : Holds val [.is (.a 0) 0, .is (.wrap .i64 ylike1_3) 0, .at ylike1_28 false, .at ylike1_27 false, .at ylike1_12 true, .at ylike1_13 true, .at ylike1_20 true, .is ylike1_2 1, .ge (.a 0) (-9223372036854775808), .le (.a 0) 9223372036854775807]) : LikeQ val :=
  leafK h (by kernel_rfl)

theorem like1_21 (val : Nat → Int) (h : Holds val [.le (.a 0) (-32769), .is (.shr ylike1_4 48) 0, .is ylike1_7 0, .at ylike1_9 true, .ne (.a 0) 0, .is (.wrap .i64 ylike1_3) 0, .at ylike1_28 false, .at ylike1_27 false, .at ylike1_12 true, .at ylike1_13 true, .at ylike1_20 true, .is ylike1_2 1, .ge (.a 0) (-9223372036854775808), .le (.a 0) 9223372036854775807]) : LikeQ val :=
  leafK h (by kernel_rfl)

theorem like1_22 (val : Nat → Int) (h : Holds val [.ge (.a 0) 65536, .ge (.a 0) (-32768), .is (.shr ylike1_4 48) 0, .is ylike1_7 0, .at ylike1_9 true, .ne (.a 0) 0, .is (.wrap .i64 ylike1_3) 0, .at ylike1_28 false, .at ylike1_27 false, .at ylike1_12 true, .at ylike1_13 true, .at ylike1_20 true, .is ylike1_2 1, .ge (.a 0) (-9223372036854775808), .le (.a 0) 9223372036854775807]) : LikeQ val :=
  leafK h (by kernel_rfl)

theorem like1_23 (val : Nat → Int) (h : Holds val [.le (.a 0) 65535, .ge (.a 0) (-32768), .is (.shr ylike1_4 48) 0, .is ylike1_7 0, .at ylike1_9 true, .ne (.a 0) 0, .is (.wrap .i64 ylike1_3) 0, .at ylike1_28 false, .at ylike1_27 false, .at ylike1_12 true, .at ylike1_13 true, .at ylike1_20 true, .is ylike1_2 1, .ge (.a 0) (-9223372036854775808), .le (.a 0) 9223372036854775807]) : LikeQ val := by
  exfalso
  have hb : Holds val (List.drop 12 _) := fun f hf => h f (List.mem_of_mem_drop hf)
  have ha : Holds val (List.take 1 _) := fun f hf => h f (List.mem_of_mem_take hf)
  have hc : Holds val (List.take 2 _) := fun f hf => h f (List.mem_of_mem_take hf)
  simp only [List.take_succ_cons, List.take_zero, List.drop_succ_cons, List.drop_zero, Holds, List.forall_mem_cons, List.not_mem_nil, false_implies, implies_true, and_true, Fact.holds, SB.eval, SX.eval, ylike1_0, ylike1_1, ylike1_2, ylike1_3, ylike1_4, ylike1_5, ylike1_6, ylike1_7, ylike1_8, ylike1_9, ylike1_10, ylike1_11, ylike1_12, ylike1_13, ylike1_14, ylike1_15, ylike1_16, ylike1_17, ylike1_18, ylike1_19, ylike1_20, ylike1_21, ylike1_22, ylike1_23, ylike1_24, ylike1_25, ylike1_26, ylike1_27, ylike1_28, wrapU, wrapI, fdivP, tmodP, beq_iff_eq, beq_eq_false_iff_ne, decide_eq_true_eq, decide_eq_false_iff_not, ne_eq] at h ha hb hc
  simp only [Int.reducePow] at h ha hb hc
  first | (clear h hc; omega) | (clear h; omega) | omega

theorem like1_24 (val : Nat → Int) (h : Holds val [.at ylike1_14 true, .ne (.shr ylike1_4 48) 0, .is ylike1_7 0, .at ylike1_9 true, .ne (.a 0) 0, .is (.wrap .i64 ylike1_3) 0, .at ylike1_28 false, .at ylike1_27 false, .at ylike1_12 true, .at ylike1_13 true, .at ylike1_20 true, .is ylike1_2 1, .ge (.a 0) (-9223372036854775808), .le (.a 0) 9223372036854775807]) : LikeQ val := by
  exfalso
  have hb : Holds val (List.drop 11 _) := fun f hf => h f (List.mem_of_mem_drop hf)
  have ha : Holds val (List.take 1 _) := fun f hf => h f (List.mem_of_mem_take hf)
  have hc : Holds val (List.take 2 _) := fun f hf => h f (List.mem_of_mem_take hf)
  simp only [List.take_succ_cons, List.take_zero, List.drop_succ_cons, List.drop_zero, Holds, List.forall_mem_cons, List.not_mem_nil, false_implies, implies_true, and_true, Fact.holds, SB.eval, SX.eval, ylike1_0, ylike1_1, ylike1_2, ylike1_3, ylike1_4, ylike1_5, ylike1_6, ylike1_7, ylike1_8, ylike1_9, ylike1_10, ylike1_11, ylike1_12, ylike1_13, ylike1_14, ylike1_15, ylike1_16, ylike1_17, ylike1_18, ylike1_19, ylike1_20, ylike1_21, ylike1_22, ylike1_23, ylike1_24, ylike1_25, ylike1_26, ylike1_27, ylike1_28, wrapU, wrapI, fdivP, tmodP, beq_iff_eq, beq_eq_false_iff_ne, decide_eq_true_eq, decide_eq_false_iff_not, ne_eq] at h ha hb hc
  simp only [Int.reducePow] at h ha hb hc
  first | (clear h hc; omega) | (clear h; omega) | omega

theorem like1_25 (val : Nat → Int) (h : Holds val [.at ylike1_14 false, .ne (.shr ylike1_4 48) 0, .is ylike1_7 0, .at ylike1_9 true, .ne (.a 0) 0, .is (.wrap .i64 ylike1_3) 0, .at ylike1_28 false, .at ylike1_27 false, .at ylike1_12 true, .at ylike1_13 true, .at ylike1_20 true, .is ylike1_2 1, .ge (.a 0) (-9223372036854775808), .le (.a 0) 9223372036854775807]) : LikeQ val := by
  exfalso
  have hb : Holds val (List.drop 11 _) := fun f hf => h f (List.mem_of_mem_drop hf)
  have ha : Holds val (List.take 1 _) := fun f hf => h f (List.mem_of_mem_take hf)
  have hc : Holds val (List.take 2 _) := fun f hf => h f (List.mem_of_mem_take hf)
  simp only [List.take_succ_cons, List.take_zero, List.drop_succ_cons, List.drop_zero, Holds, List.forall_mem_cons, List.not_mem_nil, false_implies, implies_true, and_true, Fact.holds, SB.eval, SX.eval, ylike1_0, ylike1_1, ylike1_2, ylike1_3, ylike1_4, ylike1_5, ylike1_6, ylike1_7, ylike1_8, ylike1_9, ylike1_10, ylike1_11, ylike1_12, ylike1_13, ylike1_14, ylike1_15, ylike1_16, ylike1_17, ylike1_18, ylike1_19, ylike1_20, ylike1_21, ylike1_22, ylike1_23, ylike1_24, ylike1_25, ylike1_26, ylike1_27, ylike1_28, wrapU, wrapI, fdivP, tmodP, beq_iff_eq, beq_eq_false_iff_ne, decide_eq_true_eq, decide_eq_false_iff_not, ne_eq] at h ha hb hc
  simp only [Int.reducePow] at h ha hb hc
  first | (clear h hc; omega) | (clear h; omega) | omega

theorem like1_26 (val : Nat → Int) (h : Holds val [.ne ylike1_7 0, .at ylike1_9 true, .ne (.a 0) 0, .is (.wrap .i64 ylike1_3) 0, .at ylike1_28 false, .at ylike1_27 false, .at ylike1_12 true, .at ylike1_13 true, .at ylike1_20 true, .is ylike1_2 1, .ge (.a 0) (-9223372036854775808), .le (.a 0) 9223372036854775807]) : LikeQ val := by
  exfalso
  have hb : Holds val (List.drop 9 _) := fun f hf => h f (List.mem_of_mem_drop hf)
  have ha : Holds val (List.take 1 _) := fun f hf => h f (List.mem_of_mem_take hf)
  have hc : Holds val (List.take 2 _) := fun f hf => h f (List.mem_of_mem_take hf)
  simp only [List.take_succ_cons, List.take_zero, List.drop_succ_cons, List.drop_zero, Holds, List.forall_mem_cons, List.not_mem_nil, false_implies, implies_true, and_true, Fact.holds, SB.eval, SX.eval, ylike1_0, ylike1_1, ylike1_2, ylike1_3, ylike1_4, ylike1_5, ylike1_6, ylike1_7, ylike1_8, ylike1_9, ylike1_10, ylike1_11, ylike1_12, ylike1_13, ylike1_14, ylike1_15, ylike1_16, ylike1_17, ylike1_18, ylike1_19, ylike1_20, ylike1_21, ylike1_22, ylike1_23, ylike1_24, ylike1_25, ylike1_26, ylike1_27, ylike1_28, wrapU, wrapI, fdivP, tmodP, beq_iff_eq, beq_eq_false_iff_ne, decide_eq_true_eq, decide_eq_false_iff_not, ne_eq] at h ha hb hc
  simp only [Int.reducePow] at h ha hb hc
  first | (clear h hc; omega) | (clear h; omega) | omega

theorem like1_27 (val : Nat → Int) (h : Holds val [.le (.a 0) (-32769), .at ylike1_9 false, .ne (.a 0) 0, .is (.wrap .i64 ylike1_3) 0, .at ylike1_28 false, .at ylike1_27 false, .at ylike1_12 true, .at ylike1_13 true, .at ylike1_20 true, .is ylike1_2 1, .ge (.a 0) (-9223372036854775808), .le (.a 0) 9223372036854775807]) : LikeQ val :=
  leafK h (by kernel_rfl)

theorem like1_28 (val : Nat → Int) (h : Holds val [.ge (.a 0) 65536, .ge (.a 0) (-32768), .at ylike1_9 false, .ne (.a 0) 0, .is (.wrap .i64 ylike1_3) 0, .at ylike1_28 false, .at ylike1_27 false, .at ylike1_12 true, .at ylike1_13 true, .at ylike1_20 true, .is ylike1_2 1, .ge (.a 0) (-9223372036854775808), .le (.a 0) 9223372036854775807]) : LikeQ val :=
  leafK h (by kernel_rfl)

theorem like1_29 (val : Nat → Int) (h : Holds val [.le (.a 0) 65535, .ge (.a 0) (-32768), .at ylike1_9 false, .ne (.a 0) 0, .is (.wrap .i64 ylike1_3) 0, .at ylike1_28 false, .at ylike1_27 false, .at ylike1_12 true, .at ylike1_13 true, .at ylike1_20 true, .is ylike1_2 1, .ge (.a 0) (-9223372036854775808), .le (.a 0) 9223372036854775807]) : LikeQ val := by
  exfalso
  have hb : Holds val (List.drop 10 _) := fun f hf => h f (List.mem_of_mem_drop hf)
  have ha : Holds val (List.take 1 _) := fun f hf => h f (List.mem_of_mem_take hf)
  have hc : Holds val (List.take 2 _) := fun f hf => h f (List.mem_of_mem_take hf)
  simp only [List.take_succ_cons, List.take_zero, List.drop_succ_cons, List.drop_zero, Holds, List.forall_mem_cons, List.not_mem_nil, false_implies, implies_true, and_true, Fact.holds, SB.eval, SX.eval, ylike1_0, ylike1_1, ylike1_2, ylike1_3, ylike1_4, ylike1_5, ylike1_6, ylike1_7, ylike1_8, ylike1_9, ylike1_10, ylike1_11, ylike1_12, ylike1_13, ylike1_14, ylike1_15, ylike1_16, ylike1_17, ylike1_18, ylike1_19, ylike1_20, ylike1_21, ylike1_22, ylike1_23, ylike1_24, ylike1_25, ylike1_26, ylike1_27, ylike1_28, wrapU, wrapI, fdivP, tmodP, beq_iff_eq, beq_eq_false_iff_ne, decide_eq_true_eq, decide_eq_false_iff_not, ne_eq] at h ha hb hc
  simp only [Int.reducePow] at h ha hb hc
  first | (clear h hc; omega) | (clear h; omega) | omega

theorem like1_30 (val : Nat → Int) (h : Holds val [.ne (.wrap .i64 ylike1_3) 0, .at ylike1_28 false, .at ylike1_27 false, .at ylike1_12 true, .at ylike1_13 true, .at ylike1_20 true, .is ylike1_2 1, .ge (.a 0) (-9223372036854775808), .le (.a 0) 9223372036854775807]) : LikeQ val := by
  exfalso
  have hb : Holds val (List.drop 6 _) := fun f hf => h f (List.mem_of_mem_drop hf)
  have ha : Holds val (List.take 1 _) := fun f hf => h f (List.mem_of_mem_take hf)
  have hc : Holds val (List.take 2 _) := fun f hf => h f (List.mem_of_mem_take hf)
  simp only [List.take_succ_cons, List.take_zero, List.drop_succ_cons, List.drop_zero, Holds, List.forall_mem_cons, List.not_mem_nil, false_implies, implies_true, and_true, Fact.holds, SB.eval, SX.eval, ylike1_0, ylike1_1, ylike1_2, ylike1_3, ylike1_4, ylike1_5, ylike1_6, ylike1_7, ylike1_8, ylike1_9, ylike1_10, ylike1_11, ylike1_12, ylike1_13, ylike1_14, ylike1_15, ylike1_16, ylike1_17, ylike1_18, ylike1_19, ylike1_20, ylike1_21, ylike1_22, ylike1_23, ylike1_24, ylike1_25, ylike1_26, ylike1_27, ylike1_28, wrapU, wrapI, fdivP, tmodP, beq_iff_eq, beq_eq_false_iff_ne, decide_eq_true_eq, decide_eq_false_iff_not, ne_eq] at h ha hb hc
  simp only [Int.reducePow] at h ha hb hc
  first | (clear h hc; omega) | (clear h; omega) | omega

theorem like1_31 (val : Nat → Int) (h : Holds val [.at ylike1_12 false, .at ylike1_13 true, .at ylike1_20 true, .is ylike1_2 1, .ge (.a 0) (-9223372036854775808), .le (.a 0) 9223372036854775807]) : LikeQ val := by
  exfalso
  have hb : Holds val (List.drop 3 _) := fun f hf => h f (List.mem_of_mem_drop hf)
  have ha : Holds val (List.take 1 _) := fun f hf => h f (List.mem_of_mem_take hf)
  have hc : Holds val (List.take 2 _) := fun f hf => h f (List.mem_of_mem_take hf)
  simp only [List.take_succ_cons, List.take_zero, List.drop_succ_cons, List.drop_zero, Holds, List.forall_mem_cons, List.not_mem_nil, false_implies, implies_true, and_true, Fact.holds, SB.eval, SX.eval, ylike1_0, ylike1_1, ylike1_2, ylike1_3, ylike1_4, ylike1_5, ylike1_6, ylike1_7, ylike1_8, ylike1_9, ylike1_10, ylike1_11, ylike1_12, ylike1_13, ylike1_14, ylike1_15, ylike1_16, ylike1_17, ylike1_18, ylike1_19, ylike1_20, ylike1_21, ylike1_22, ylike1_23, ylike1_24, ylike1_25, ylike1_26, ylike1_27, ylike1_28, wrapU, wrapI, fdivP, tmodP, beq_iff_eq, beq_eq_false_iff_ne, decide_eq_true_eq, decide_eq_false_iff_not, ne_eq] at h ha hb hc
  simp only [Int.reducePow] at h ha hb hc
  first | (clear h hc; omega) | (clear h; omega) | omega

theorem like1_32 (val : Nat → Int) (h : Holds val [.is ylike1_23 0, .is ylike1_24 0, .le (.wrap .i64 ylike1_3) 65535, .ge (.wrap .i64 ylike1_3) 0, .le (.shr ylike1_4 48) 32767, .ge (.shr ylike1_4 48) (-32768), .at ylike1_19 true, .at ylike1_25 true, .at ylike1_26 true, .at ylike1_27 true, .at ylike1_12 true, .at ylike1_14 true, .at ylike1_13 false, .at ylike1_20 true, .is ylike1_2 1, .ge (.a 0) (-9223372036854775808), .le (.a 0) 9223372036854775807]) : LikeQ val :=
  leafK h (by kernel_rfl)

theorem like1_33 (val : Nat → Int) (h : Holds val [.ne ylike1_23 0, .is ylike1_24 0, .le (.wrap .i64 ylike1_3) 65535, .ge (.wrap .i64 ylike1_3) 0, .le (.shr ylike1_4 48) 32767, .ge (.shr ylike1_4 48) (-32768), .at ylike1_19 true, .at ylike1_25 true, .at ylike1_26 true, .at ylike1_27 true, .at ylike1_12 true, .at ylike1_14 true, .at ylike1_13 false, .at ylike1_20 true, .is ylike1_2 1, .ge (.a 0) (-9223372036854775808), .le (.a 0) 9223372036854775807]) : LikeQ val := by
  exfalso
  have hb : Holds val (List.drop 14 _) := fun f hf => h f (List.mem_of_mem_drop hf)
  have ha : Holds val (List.take 1 _) := fun f hf => h f (List.mem_of_mem_take hf)
  have hc : Holds val (List.take 2 _) := fun f hf => h f (List.mem_of_mem_take hf)
  simp only [List.take_succ_cons, List.take_zero, List.drop_succ_cons, List.drop_zero, Holds, List.forall_mem_cons, List.not_mem_nil, false_implies, implies_true, and_true, Fact.holds, SB.eval, SX.eval, ylike1_0, ylike1_1, ylike1_2, ylike1_3, ylike1_4, ylike1_5, ylike1_6, ylike1_7, ylike1_8, ylike1_9, ylike1_10, ylike1_11, ylike1_12, ylike1_13, ylike1_14, ylike1_15, ylike1_16, ylike1_17, ylike1_18, ylike1_19, ylike1_20, ylike1_21, ylike1_22, ylike1_23, ylike1_24, ylike1_25, ylike1_26, ylike1_27, ylike1_28, wrapU, wrapI, fdivP, tmodP, beq_iff_eq, beq_eq_false_iff_ne, decide_eq_true_eq, decide_eq_false_iff_not, ne_eq] at h ha hb hc
  simp only [Int.reducePow] at h ha hb hc
  first | (clear h hc; omega) | (clear h; omega) | omega

theorem like1_34 (val : Nat → Int) (h : Holds val [.ne ylike1_24 0, .le (.wrap .i64 ylike1_3) 65535, .ge (.wrap .i64 ylike1_3) 0, .le (.shr ylike1_4 48) 32767, .ge (.shr ylike1_4 48) (-32768), .at ylike1_19 true, .at ylike1_25 true, .at ylike1_26 true, .at ylike1_27 true, .at ylike1_12 true, .at ylike1_14 true, .at ylike1_13 false, .at ylike1_20 true, .is ylike1_2 1, .ge (.a 0) (-9223372036854775808), .le (.a 0) 9223372036854775807]) : LikeQ val := by
  exfalso
  have hb : Holds val (List.drop 13 _) := fun f hf => h f (List.mem_of_mem_drop hf)
  have ha : Holds val (List.take 1 _) := fun f hf => h f (List.mem_of_mem_take hf)
  have hc : Holds val (List.take 2 _) := fun f hf => h f (List.mem_of_mem_take hf)
  simp only [List.take_succ_cons, List.take_zero, List.drop_succ_cons, List.drop_zero, Holds, List.forall_mem_cons, List.not_mem_nil, false_implies, implies_true, and_true, Fact.holds, SB.eval, SX.eval, ylike1_0, ylike1_1, ylike1_2, ylike1_3, ylike1_4, ylike1_5, ylike1_6, ylike1_7, ylike1_8, ylike1_9, ylike1_10, ylike1_11, ylike1_12, ylike1_13, ylike1_14, ylike1_15, ylike1_16, ylike1_17, ylike1_18, ylike1_19, ylike1_20, ylike1_21, ylike1_22, ylike1_23, ylike1_24, ylike1_25, ylike1_26, ylike1_27, ylike1_28, wrapU, wrapI, fdivP, tmodP, beq_iff_eq, beq_eq_false_iff_ne, decide_eq_true_eq, decide_eq_false_iff_not, ne_eq] at h ha hb hc
  simp only [Int.reducePow] at h ha hb hc
  first | (clear h hc; omega) | (clear h; omega) | omega

theorem like1_35 (val : Nat → Int) (h : Holds val [.ge (.wrap .i64 ylike1_3) 65536, .ge (.wrap .i64 ylike1_3) 0, .le (.shr ylike1_4 48) 32767, .ge (.shr ylike1_4 48) (-32768), .at ylike1_19 true, .at ylike1_25 true, .at ylike1_26 true, .at ylike1_27 true, .at ylike1_12 true, .at ylike1_14 true, .at ylike1_13 false, .at ylike1_20 true, .is ylike1_2 1, .ge (.a 0) (-9223372036854775808), .le (.a 0) 9223372036854775807]) : LikeQ val := by
  exfalso
  have hb : Holds val (List.drop 12 _) := fun f hf => h f (List.mem_of_mem_drop hf)
  have ha : Holds val (List.take 1 _) := fun f hf => h f (List.mem_of_mem_take hf)
  have hc : Holds val (List.take 2 _) := fun f hf => h f (List.mem_of_mem_take hf)
  simp only [List.take_succ_cons, List.take_zero, List.drop_succ_cons, List.drop_zero, Holds, List.forall_mem_cons, List.not_mem_nil, false_implies, implies_true, and_true, Fact.holds, SB.eval, SX.eval, ylike1_0, ylike1_1, ylike1_2, ylike1_3, ylike1_4, ylike1_5, ylike1_6, ylike1_7, ylike1_8, ylike1_9, ylike1_10, ylike1_11, ylike1_12, ylike1_13, ylike1_14, ylike1_15, ylike1_16, ylike1_17, ylike1_18, ylike1_19, ylike1_20, ylike1_21, ylike1_22, ylike1_23, ylike1_24, ylike1_25, ylike1_26, ylike1_27, ylike1_28, wrapU, wrapI, fdivP, tmodP, beq_iff_eq, beq_eq_false_iff_ne, decide_eq_true_eq, decide_eq_false_iff_not, ne_eq] at h ha hb hc
  simp only [Int.reducePow] at h ha hb hc
  first | (clear h hc; omega) | (clear h; omega) | omega

theorem like1_36 (val : Nat → Int) (h : Holds val [.le (.wrap .i64 ylike1_3) (-1), .le (.shr ylike1_4 48) 32767, .ge (.shr ylike1_4 48) (-32768), .at ylike1_19 true, .at ylike1_25 true, .at ylike1_26 true, .at ylike1_27 true, .at ylike1_12 true, .at ylike1_14 true, .at ylike1_13 false, .at ylike1_20 true, .is ylike1_2 1, .ge (.a 0) (-9223372036854775808), .le (.a 0) 9223372036854775807]) : LikeQ val := by
  exfalso
  have hb : Holds val (List.drop 11 _) := fun f hf => h f (List.mem_of_mem_drop hf)
  have ha : Holds val (List.take 1 _) := fun f hf => h f (List.mem_of_mem_take hf)
  have hc : Holds val (List.take 2 _) := fun f hf => h f (List.mem_of_mem_take hf)
  simp only [List.take_succ_cons, List.take_zero, List.drop_succ_cons, List.drop_zero, Holds, List.forall_mem_cons, List.not_mem_nil, false_implies, implies_true, and_true, Fact.holds, SB.eval, SX.eval, ylike1_0, ylike1_1, ylike1_2, ylike1_3, ylike1_4, ylike1_5, ylike1_6, ylike1_7, ylike1_8, ylike1_9, ylike1_10, ylike1_11, ylike1_12, ylike1_13, ylike1_14, ylike1_15, ylike1_16, ylike1_17, ylike1_18, ylike1_19, ylike1_20, ylike1_21, ylike1_22, ylike1_23, ylike1_24, ylike1_25, ylike1_26, ylike1_27, ylike1_28, wrapU, wrapI, fdivP, tmodP, beq_iff_eq, beq_eq_false_iff_ne, decide_eq_true_eq, decide_eq_false_iff_not, ne_eq] at h ha hb hc
  simp only [Int.reducePow] at h ha hb hc
  first | (clear h hc; omega) | (clear h; omega) | omega

theorem like1_37 (val : Nat → Int) (h : Holds val [.ge (.shr ylike1_4 48) 32768, .ge (.shr ylike1_4 48) (-32768), .at ylike1_19 true, .at ylike1_25 true, .at ylike1_26 true, .at ylike1_27 true, .at ylike1_12 true, .at ylike1_14 true, .at ylike1_13 false, .at ylike1_20 true, .is ylike1_2 1, .ge (.a 0) (-9223372036854775808), .le (.a 0) 9223372036854775807]) : LikeQ val := by
  exfalso
  have hb : Holds val (List.drop 10 _) := fun f hf => h f (List.mem_of_mem_drop hf)
  have ha : Holds val (List.take 1 _) := fun f hf => h f (List.mem_of_mem_take hf)
  have hc : Holds val (List.take 2 _) := fun f hf => h f (List.mem_of_mem_take hf)
  simp only [List.take_succ_cons, List.take_zero, List.drop_succ_cons, List.drop_zero, Holds, List.forall_mem_cons, List.not_mem_nil, false_implies, implies_true, and_true, Fact.holds, SB.eval, SX.eval, ylike1_0, ylike1_1, ylike1_2, ylike1_3, ylike1_4, ylike1_5, ylike1_6, ylike1_7, ylike1_8, ylike1_9, ylike1_10, ylike1_11, ylike1_12, ylike1_13, ylike1_14, ylike1_15, ylike1_16, ylike1_17, ylike1_18, ylike1_19, ylike1_20, ylike1_21, ylike1_22, ylike1_23, ylike1_24, ylike1_25, ylike1_26, ylike1_27, ylike1_28, wrapU, wrapI, fdivP, tmodP, beq_iff_eq, beq_eq_false_iff_ne, decide_eq_true_eq, decide_eq_false_iff_not, ne_eq] at h ha hb hc
  simp only [Int.reducePow] at h ha hb hc
  first | (clear h hc; omega) | (clear h; omega) | omega

theorem like1_38 (val : Nat → Int) (h : Holds val [.le (.shr ylike1_4 48) (-32769), .at ylike1_19 true, .at ylike1_25 true, .at ylike1_26 true, .at ylike1_27 true, .at ylike1_12 true, .at ylike1_14 true, .at ylike1_13 false, .at ylike1_20 true, .is ylike1_2 1, .ge (.a 0) (-9223372036854775808), .le (.a 0) 9223372036854775807]) : LikeQ val := by
  exfalso
  have hb : Holds val (List.drop 9 _) := fun f hf => h f (List.mem_of_mem_drop hf)
  have ha : Holds val (List.take 1 _) := fun f hf => h f (List.mem_of_mem_take hf)
  have hc : Holds val (List.take 2 _) := fun f hf => h f (List.mem_of_mem_take hf)
  simp only [List.take_succ_cons, List.take_zero, List.drop_succ_cons, List.drop_zero, Holds, List.forall_mem_cons, List.not_mem_nil, false_implies, implies_true, and_true, Fact.holds, SB.eval, SX.eval, ylike1_0, ylike1_1, ylike1_2, ylike1_3, ylike1_4, ylike1_5, ylike1_6, ylike1_7, ylike1_8, ylike1_9, ylike1_10, ylike1_11, ylike1_12, ylike1_13, ylike1_14, ylike1_15, ylike1_16, ylike1_17, ylike1_18, ylike1_19, ylike1_20, ylike1_21, ylike1_22, ylike1_23, ylike1_24, ylike1_25, ylike1_26, ylike1_27, ylike1_28, wrapU, wrapI, fdivP, tmodP, beq_iff_eq, beq_eq_false_iff_ne, decide_eq_true_eq, decide_eq_false_iff_not, ne_eq] at h ha hb hc
  simp only [Int.reducePow] at h ha hb hc
  first | (clear h hc; omega) | (clear h; omega) | omega

theorem like1_39 (val : Nat → Int) (h : Holds val [.at ylike1_19 false, .at ylike1_25 true, .at ylike1_26 true, .at ylike1_27 true, .at ylike1_12 true, .at ylike1_14 true, .at ylike1_13 false, .at ylike1_20 true, .is ylike1_2 1, .ge (.a 0) (-9223372036854775808), .le (.a 0) 9223372036854775807]) : LikeQ val := by
  exfalso
  have hb : Holds val (List.drop 8 _) := fun f hf => h f (List.mem_of_mem_drop hf)
  have ha : Holds val (List.take 1 _) := fun f hf => h f (List.mem_of_mem_take hf)
  have hc : Holds val (List.take 2 _) := fun f hf => h f (List.mem_of_mem_take hf)
  simp only [List.take_succ_cons, List.take_zero, List.drop_succ_cons, List.drop_zero, Holds, List.forall_mem_cons, List.not_mem_nil, false_implies, implies_true, and_true, Fact.holds, SB.eval, SX.eval, ylike1_0, ylike1_1, ylike1_2, ylike1_3, ylike1_4, ylike1_5, ylike1_6, ylike1_7, ylike1_8, ylike1_9, ylike1_10, ylike1_11, ylike1_12, ylike1_13, ylike1_14, ylike1_15, ylike1_16, ylike1_17, ylike1_18, ylike1_19, ylike1_20, ylike1_21, ylike1_22, ylike1_23, ylike1_24, ylike1_25, ylike1_26, ylike1_27, ylike1_28, wrapU, wrapI, fdivP, tmodP, beq_iff_eq, beq_eq_false_iff_ne, decide_eq_true_eq, decide_eq_false_iff_not, ne_eq] at h ha hb hc
  simp only [Int.reducePow] at h ha hb hc
  first | (clear h hc; omega) | (clear h; omega) | omega

theorem like1_40 (val : Nat → Int) (h : Holds val [.at ylike1_25 false, .at ylike1_26 true, .at ylike1_27 true, .at ylike1_12 true, .at ylike1_14 true, .at ylike1_13 false, .at ylike1_20 true, .is ylike1_2 1, .ge (.a 0) (-9223372036854775808), .le (.a 0) 9223372036854775807]) : LikeQ val := by
  exfalso
  have hb : Holds val (List.drop 7 _) := fun f hf => h f (List.mem_of_mem_drop hf)
  have ha : Holds val (List.take 1 _) := fun f hf => h f (List.mem_of_mem_take hf)
  have hc : Holds val (List.take 2 _) := fun f hf => h f (List.mem_of_mem_take hf)
  simp only [List.take_succ_cons, List.take_zero, List.drop_succ_cons, List.drop_zero, Holds, List.forall_mem_cons, List.not_mem_nil, false_implies, implies_true, and_true, Fact.holds, SB.eval, SX.eval, ylike1_0, ylike1_1, ylike1_2, ylike1_3, ylike1_4, ylike1_5, ylike1_6, ylike1_7, ylike1_8, ylike1_9, ylike1_10, ylike1_11, ylike1_12, ylike1_13, ylike1_14, ylike1_15, ylike1_16, ylike1_17, ylike1_18, ylike1_19, ylike1_20, ylike1_21, ylike1_22, ylike1_23, ylike1_24, ylike1_25, ylike1_26, ylike1_27, ylike1_28, wrapU, wrapI, fdivP, tmodP, beq_iff_eq, beq_eq_false_iff_ne, decide_eq_true_eq, decide_eq_false_iff_not, ne_eq] at h ha hb hc
  simp only [Int.reducePow] at h ha hb hc
  first | (clear h hc; omega) | (clear h; omega) | omega

theorem like1_41 (val : Nat → Int) (h : Holds val [.at ylike1_26 false, .at ylike1_27 true, .at ylike1_12 true, .at ylike1_14 true, .at ylike1_13 false, .at ylike1_20 true, .is ylike1_2 1, .ge (.a 0) (-9223372036854775808), .le (.a 0) 9223372036854775807]) : LikeQ val := by
  exfalso
  have hb : Holds val (List.drop 6 _) := fun f hf => h f (List.mem_of_mem_drop hf)
  have ha : Holds val (List.take 1 _) := fun f hf => h f (List.mem_of_mem_take hf)
  have hc : Holds val (List.take 2 _) := fun f hf => h f (List.mem_of_mem_take hf)
  simp only [List.take_succ_cons, List.take_zero, List.drop_succ_cons, List.drop_zero, Holds, List.forall_mem_cons, List.not_mem_nil, false_implies, implies_true, and_true, Fact.holds, SB.eval, SX.eval, ylike1_0, ylike1_1, ylike1_2, ylike1_3, ylike1_4, ylike1_5, ylike1_6, ylike1_7, ylike1_8, ylike1_9, ylike1_10, ylike1_11, ylike1_12, ylike1_13, ylike1_14, ylike1_15, ylike1_16, ylike1_17, ylike1_18, ylike1_19, ylike1_20, ylike1_21, ylike1_22, ylike1_23, ylike1_24, ylike1_25, ylike1_26, ylike1_27, ylike1_28, wrapU, wrapI, fdivP, tmodP, beq_iff_eq, beq_eq_false_iff_ne, decide_eq_true_eq, decide_eq_false_iff_not, ne_eq] at h ha hb hc
  simp only [Int.reducePow] at h ha hb hc
  first | (clear h hc; omega) | (clear h; omega) | omega

theorem like1_42 (val : Nat → Int) (h : Holds val [.is ylike1_23 0, .is ylike1_24 0, .le (.wrap .i64 ylike1_3) 65535, .ge (.wrap .i64 ylike1_3) 0, .le (.shr ylike1_4 48) 32767, .ge (.shr ylike1_4 48) (-32768), .at ylike1_19 true, .at ylike1_25 true, .at ylike1_26 true, .at ylike1_28 true, .at ylike1_27 false, .at ylike1_12 true, .at ylike1_14 true, .at ylike1_13 false, .at ylike1_20 true, .is ylike1_2 1, .ge (.a 0) (-9223372036854775808), .le (.a 0) 9223372036854775807]) : LikeQ val :=
  leafK h (by kernel_rfl)

theorem like1_43 (val : Nat → Int) (h : Holds val [.ne ylike1_23 0, .is ylike1_24 0, .le (.wrap .i64 ylike1_3) 65535, .ge (.wrap .i64 ylike1_3) 0, .le (.shr ylike1_4 48) 32767, .ge (.shr ylike1_4 48) (-32768), .at ylike1_19 true, .at ylike1_25 true, .at ylike1_26 true, .at ylike1_28 true, .at ylike1_27 false, .at ylike1_12 true, .at ylike1_14 true, .at ylike1_13 false, .at ylike1_20 true, .is ylike1_2 1, .ge (.a 0) (-9223372036854775808), .le (.a 0) 9223372036854775807]) : LikeQ val := by
  exfalso
  have hb : Holds val (List.drop 15 _) := fun f hf => h f (List.mem_of_mem_drop hf)
  have ha : Holds val (List.take 1 _) := fun f hf => h f (List.mem_of_mem_take hf)
  have hc : Holds val (List.take 2 _) := fun f hf => h f (List.mem_of_mem_take hf)
  simp only [List.take_succ_cons, List.take_zero, List.drop_succ_cons, List.drop_zero, Holds, List.forall_mem_cons, List.not_mem_nil, false_implies, implies_true, and_true, Fact.holds, SB.eval, SX.eval, ylike1_0, ylike1_1, ylike1_2, ylike1_3, ylike1_4, ylike1_5, ylike1_6, ylike1_7, ylike1_8, ylike1_9, ylike1_10, ylike1_11, ylike1_12, ylike1_13, ylike1_14, ylike1_15, ylike1_16, ylike1_17, ylike1_18, ylike1_19, ylike1_20, ylike1_21, ylike1_22, ylike1_23, ylike1_24, ylike1_25, ylike1_26, ylike1_27, ylike1_28, wrapU, wrapI, fdivP, tmodP, beq_iff_eq, beq_eq_false_iff_ne, decide_eq_true_eq, decide_eq_false_iff_not, ne_eq] at h ha hb hc
  simp only [Int.reducePow] at h ha hb hc
  first | (clear h hc; omega) | (clear h; omega) | omega

theorem like1_44 (val : Nat → Int) (h : Holds val [.ne ylike1_24 0, .le (.wrap .i64 ylike1_3) 65535, .ge (.wrap .i64 ylike1_3) 0, .le (.shr ylike1_4 48) 32767, .ge (.shr ylike1_4 48) (-32768), .at ylike1_19 true, .at ylike1_25 true, .at ylike1_26 true, .at ylike1_28 true, .at ylike1_27 false, .at ylike1_12 true, .at ylike1_14 true, .at ylike1_13 false, .at ylike1_20 true, .is ylike1_2 1, .ge (.a 0) (-9223372036854775808), .le (.a 0) 9223372036854775807]) : LikeQ val := by
  exfalso
  have hb : Holds val (List.drop 14 _) := fun f hf => h f (List.mem_of_mem_drop hf)
  have ha : Holds val (List.take 1 _) := fun f hf => h f (List.mem_of_mem_take hf)
  have hc : Holds val (List.take 2 _) := fun f hf => h f (List.mem_of_mem_take hf)
  simp only [List.take_succ_cons, List.take_zero, List.drop_succ_cons, List.drop_zero, Holds, List.forall_mem_cons, List.not_mem_nil, false_implies, implies_true, and_true, Fact.holds, SB.eval, SX.eval, ylike1_0, ylike1_1, ylike1_2, ylike1_3, ylike1_4, ylike1_5, ylike1_6, ylike1_7, ylike1_8, ylike1_9, ylike1_10, ylike1_11, ylike1_12, ylike1_13, ylike1_14, ylike1_15, ylike1_16, ylike1_17, ylike1_18, ylike1_19, ylike1_20, ylike1_21, ylike1_22, ylike1_23, ylike1_24, ylike1_25, ylike1_26, ylike1_27, ylike1_28, wrapU, wrapI, fdivP, tmodP, beq_iff_eq, beq_eq_false_iff_ne, decide_eq_true_eq, decide_eq_false_iff_not, ne_eq] at h ha hb hc
  simp only [Int.reducePow] at h ha hb hc
  first | (clear h hc; omega) | (clear h; omega) | omega

theorem like1_45 (val : Nat → Int) (h : Holds val [.ge (.wrap .i64 ylike1_3) 65536, .ge (.wrap .i64 ylike1_3) 0, .le (.shr ylike1_4 48) 32767, .ge (.shr ylike1_4 48) (-32768), .at ylike1_19 true, .at ylike1_25 true, .at ylike1_26 true, .at ylike1_28 true, .at ylike1_27 false, .at ylike1_12 true, .at ylike1_14 true, .at ylike1_13 false, .at ylike1_20 true, .is ylike1_2 1, .ge (.a 0) (-9223372036854775808), .le (.a 0) 9223372036854775807]) : LikeQ val := by
  exfalso
  have hb : Holds val (List.drop 13 _) := fun f hf => h f (List.mem_of_mem_drop hf)
  have ha : Holds val (List.take 1 _) := fun f hf => h f (List.mem_of_mem_take hf)
  have hc : Holds val (List.take 2 _) := fun f hf => h f (List.mem_of_mem_take hf)
  simp only [List.take_succ_cons, List.take_zero, List.drop_succ_cons, List.drop_zero, Holds, List.forall_mem_cons, List.not_mem_nil, false_implies, implies_true, and_true, Fact.holds, SB.eval, SX.eval, ylike1_0, ylike1_1, ylike1_2, ylike1_3, ylike1_4, ylike1_5, ylike1_6, ylike1_7, ylike1_8, ylike1_9, ylike1_10, ylike1_11, ylike1_12, ylike1_13, ylike1_14, ylike1_15, ylike1_16, ylike1_17, ylike1_18, ylike1_19, ylike1_20, ylike1_21, ylike1_22, ylike1_23, ylike1_24, ylike1_25, ylike1_26, ylike1_27, ylike1_28, wrapU, wrapI, fdivP, tmodP, beq_iff_eq, beq_eq_false_iff_ne, decide_eq_true_eq, decide_eq_false_iff_not, ne_eq] at h ha hb hc
  simp only [Int.reducePow] at h ha hb hc
  first | (clear h hc; omega) | (clear h; omega) | omega

theorem like1_46 (val : Nat → Int) (h : Holds val [.le (.wrap .i64 ylike1_3) (-1), .le (.shr ylike1_4 48) 32767, .ge (.shr ylike1_4 48) (-32768), .at ylike1_19 true, .at ylike1_25 true, .at ylike1_26 true, .at ylike1_28 true, .at ylike1_27 false, .at ylike1_12 true, .at ylike1_14 true, .at ylike1_13 false, .at ylike1_20 true, .is ylike1_2 1, .ge (.a 0) (-9223372036854775808), .le (.a 0) 9223372036854775807]) : LikeQ val := by
  exfalso
  have hb : Holds val (List.drop 12 _) := fun f hf => h f (List.mem_of_mem_drop hf)
  have ha : Holds val (List.take 1 _) := fun f hf => h f (List.mem_of_mem_take hf)
  have hc : Holds val (List.take 2 _) := fun f hf => h f (List.mem_of_mem_take hf)
  simp only [List.take_succ_cons, List.take_zero, List.drop_succ_cons, List.drop_zero, Holds, List.forall_mem_cons, List.not_mem_nil, false_implies, implies_true, and_true, Fact.holds, SB.eval, SX.eval, ylike1_0, ylike1_1, ylike1_2, ylike1_3, ylike1_4, ylike1_5, ylike1_6, ylike1_7, ylike1_8, ylike1_9, ylike1_10, ylike1_11, ylike1_12, ylike1_13, ylike1_14, ylike1_15, ylike1_16, ylike1_17, ylike1_18, ylike1_19, ylike1_20, ylike1_21, ylike1_22, ylike1_23, ylike1_24, ylike1_25, ylike1_26, ylike1_27, ylike1_28, wrapU, wrapI, fdivP, tmodP, beq_iff_eq, beq_eq_false_iff_ne, decide_eq_true_eq, decide_eq_false_iff_not, ne_eq] at h ha hb hc
  simp only [Int.reducePow] at h ha hb hc
  first | (clear h hc; omega) | (clear h; omega) | omega

theorem like1_47 (val : Nat → Int) (h : Holds val [.ge (.shr ylike1_4 48) 32768, .ge (.shr ylike1_4 48) (-32768), .at ylike1_19 true, .at ylike1_25 true, .at ylike1_26 true, .at ylike1_28 true, .at ylike1_27 false, .at ylike1_12 true, .at ylike1_14 true, .at ylike1_13 false, .at ylike1_20 true, .is ylike1_2 1, .ge (.a 0) (-9223372036854775808), .le (.a 0) 9223372036854775807]) : LikeQ val := by
  exfalso
  have hb : Holds val (List.drop 11 _) := fun f hf => h f (List.mem_of_mem_drop hf)
  have ha : Holds val (List.take 1 _) := fun f hf => h f (List.mem_of_mem_take hf)
  have hc : Holds val (List.take 2 _) := fun f hf => h f (List.mem_of_mem_take hf)
  simp only [List.take_succ_cons, List.take_zero, List.drop_succ_cons, List.drop_zero, Holds, List.forall_mem_cons, List.not_mem_nil, false_implies, implies_true, and_true, Fact.holds, SB.eval, SX.eval, ylike1_0, ylike1_1, ylike1_2, ylike1_3, ylike1_4, ylike1_5, ylike1_6, ylike1_7, ylike1_8, ylike1_9, ylike1_10, ylike1_11, ylike1_12, ylike1_13, ylike1_14, ylike1_15, ylike1_16, ylike1_17, ylike1_18, ylike1_19, ylike1_20, ylike1_21, ylike1_22, ylike1_23, ylike1_24, ylike1_25, ylike1_26, ylike1_27, ylike1_28, wrapU, wrapI, fdivP, tmodP, beq_iff_eq, beq_eq_false_iff_ne, decide_eq_true_eq, decide_eq_false_iff_not, ne_eq] at h ha hb hc
  simp only [Int.reducePow] at h ha hb hc
  first | (clear h hc; omega) | (clear h; omega) | omega

theorem like1_48 (val : Nat → Int) (h : Holds val [.le (.shr ylike1_4 48) (-32769), .at ylike1_19 true, .at ylike1_25 true, .at ylike1_26 true, .at ylike1_28 true, .at ylike1_27 false, .at ylike1_12 true, .at ylike1_14 true, .at ylike1_13 false, .at ylike1_20 true, .is ylike1_2 1, .ge (.a 0) (-9223372036854775808), .le (.a 0) 9223372036854775807]) : LikeQ val := by
  exfalso
  have hb : Holds val (List.drop 10 _) := fun f hf => h f (List.mem_of_mem_drop hf)
  have ha : Holds val (List.take 1 _) := fun f hf => h f (List.mem_of_mem_take hf)
  have hc : Holds val (List.take 2 _) := fun f hf => h f (List.mem_of_mem_take hf)
  simp only [List.take_succ_cons, List.take_zero, List.drop_succ_cons, List.drop_zero, Holds, List.forall_mem_cons, List.not_mem_nil, false_implies, implies_true, and_true, Fact.holds, SB.eval, SX.eval, ylike1_0, ylike1_1, ylike1_2, ylike1_3, ylike1_4, ylike1_5, ylike1_6, ylike1_7, ylike1_8, ylike1_9, ylike1_10, ylike1_11, ylike1_12, ylike1_13, ylike1_14, ylike1_15, ylike1_16, ylike1_17, ylike1_18, ylike1_19, ylike1_20, ylike1_21, ylike1_22, ylike1_23, ylike1_24, ylike1_25, ylike1_26, ylike1_27, ylike1_28, wrapU, wrapI, fdivP, tmodP, beq_iff_eq, beq_eq_false_iff_ne, decide_eq_true_eq, decide_eq_false_iff_not, ne_eq] at h ha hb hc
  simp only [Int.reducePow] at h ha hb hc
  first | (clear h hc; omega) | (clear h; omega) | omega

theorem like1_49 (val : Nat → Int) (h : Holds val [.at ylike1_19 false, .at ylike1_25 true, .at ylike1_26 true, .at ylike1_28 true, .at ylike1_27 false, .at ylike1_12 true, .at ylike1_14 true, .at ylike1_13 false, .at ylike1_20 true, .is ylike1_2 1, .ge (.a 0) (-9223372036854775808), .le (.a 0) 9223372036854775807]) : LikeQ val := by
  exfalso
  have hb : Holds val (List.drop 9 _) := fun f hf => h f (List.mem_of_mem_drop hf)
  have ha : Holds val (List.take 1 _) := fun f hf => h f (List.mem_of_mem_take hf)
  have hc : Holds val (List.take 2 _) := fun f hf => h f (List.mem_of_mem_take hf)
  simp only [List.take_succ_cons, List.take_zero, List.drop_succ_cons, List.drop_zero, Holds, List.forall_mem_cons, List.not_mem_nil, false_implies, implies_true, and_true, Fact.holds, SB.eval, SX.eval, ylike1_0, ylike1_1, ylike1_2, ylike1_3, ylike1_4, ylike1_5, ylike1_6, ylike1_7, ylike1_8, ylike1_9, ylike1_10, ylike1_11, ylike1_12, ylike1_13, ylike1_14, ylike1_15, ylike1_16, ylike1_17, ylike1_18, ylike1_19, ylike1_20, ylike1_21, ylike1_22, ylike1_23, ylike1_24, ylike1_25, ylike1_26, ylike1_27, ylike1_28, wrapU, wrapI, fdivP, tmodP, beq_iff_eq, beq_eq_false_iff_ne, decide_eq_true_eq, decide_eq_false_iff_not, ne_eq] at h ha hb hc
  simp only [Int.reducePow] at h ha hb hc
  first | (clear h hc; omega) | (clear h; omega) | omega

theorem like1_50 (val : Nat → Int) (h : Holds val [.at ylike1_25 false, .at ylike1_26 true, .at ylike1_28 true, .at ylike1_27 false, .at ylike1_12 true, .at ylike1_14 true, .at ylike1_13 false, .at ylike1_20 true, .is ylike1_2 1, .ge (.a 0) (-9223372036854775808), .le (.a 0) 9223372036854775807]) : LikeQ val := by
  exfalso
  have hb : Holds val (List.drop 8 _) := fun f hf => h f (List.mem_of_mem_drop hf)
  have ha : Holds val (List.take 1 _) := fun f hf => h f (List.mem_of_mem_take hf)
  have hc : Holds val (List.take 2 _) := fun f hf => h f (List.mem_of_mem_take hf)
  simp only [List.take_succ_cons, List.take_zero, List.drop_succ_cons, List.drop_zero, Holds, List.forall_mem_cons, List.not_mem_nil, false_implies, implies_true, and_true, Fact.holds, SB.eval, SX.eval, ylike1_0, ylike1_1, ylike1_2, ylike1_3, ylike1_4, ylike1_5, ylike1_6, ylike1_7, ylike1_8, ylike1_9, ylike1_10, ylike1_11, ylike1_12, ylike1_13, ylike1_14, ylike1_15, ylike1_16, ylike1_17, ylike1_18, ylike1_19, ylike1_20, ylike1_21, ylike1_22, ylike1_23, ylike1_24, ylike1_25, ylike1_26, ylike1_27, ylike1_28, wrapU, wrapI, fdivP, tmodP, beq_iff_eq, beq_eq_false_iff_ne, decide_eq_true_eq, decide_eq_false_iff_not, ne_eq] at h ha hb hc
  simp only [Int.reducePow] at h ha hb hc
  first | (clear h hc; omega) | (clear h; omega) | omega

theorem like1_51 (val : Nat → Int) (h : Holds val [.at ylike1_26 false, .at ylike1_28 true, .at ylike1_27 false, .at ylike1_12 true, .at ylike1_14 true, .at ylike1_13 false, .at ylike1_20 true, .is ylike1_2 1, .ge (.a 0) (-9223372036854775808), .le (.a 0) 9223372036854775807]) : LikeQ val := by
  exfalso
  have hb : Holds val (List.drop 7 _) := fun f hf => h f (List.mem_of_mem_drop hf)
  have ha : Holds val (List.take 1 _) := fun f hf => h f (List.mem_of_mem_take hf)
  have hc : Holds val (List.take 2 _) := fun f hf => h f (List.mem_of_mem_take hf)
  simp only [List.take_succ_cons, List.take_zero, List.drop_succ_cons, List.drop_zero, Holds, List.forall_mem_cons, List.not_mem_nil, false_implies, implies_true, and_true, Fact.holds, SB.eval, SX.eval, ylike1_0, ylike1_1, ylike1_2, ylike1_3, ylike1_4, ylike1_5, ylike1_6, ylike1_7, ylike1_8, ylike1_9, ylike1_10, ylike1_11, ylike1_12, ylike1_13, ylike1_14, ylike1_15, ylike1_16, ylike1_17, ylike1_18, ylike1_19, ylike1_20, ylike1_21, ylike1_22, ylike1_23, ylike1_24, ylike1_25, ylike1_26, ylike1_27, ylike1_28, wrapU, wrapI, fdivP, tmodP, beq_iff_eq, beq_eq_false_iff_ne, decide_eq_true_eq, decide_eq_false_iff_not, ne_eq] at h ha hb hc
  simp only [Int.reducePow] at h ha hb hc
  first | (clear h hc; omega) | (clear h; omega) | omega

theorem like1_52 (val : Nat → Int) (h : Holds val [.is (.a 0) 0, .is (.wrap .i64 ylike1_3) 0, .at ylike1_28 false, .at ylike1_27 false, .at ylike1_12 true, .at ylike1_14 true, .at ylike1_13 false, .at ylike1_20 true, .is ylike1_2 1, .ge (.a 0) (-9223372036854775808), .le (.a 0) 9223372036854775807]) : LikeQ val :=
  leafK h (by kernel_rfl)

theorem like1_53 (val : Nat → Int) (h : Holds val [.le (.a 0) (-32769), .is (.shr ylike1_4 48) 0, .is ylike1_7 0, .at ylike1_9 true, .ne (.a 0) 0, .is (.wrap .i64 ylike1_3) 0, .at ylike1_28 false, .at ylike1_27 false, .at ylike1_12 true, .at ylike1_14 true, .at ylike1_13 false, .at ylike1_20 true, .is ylike1_2 1, .ge (.a 0) (-9223372036854775808), .le (.a 0) 9223372036854775807]) : LikeQ val :=
  leafK h (by kernel_rfl)

theorem like1_54 (val : Nat → Int) (h : Holds val [.ge (.a 0) 65536, .ge (.a 0) (-32768), .is (.shr ylike1_4 48) 0, .is ylike1_7 0, .at ylike1_9 true, .ne (.a 0) 0, .is (.wrap .i64 ylike1_3) 0, .at ylike1_28 false, .at ylike1_27 false, .at ylike1_12 true, .at ylike1_14 true, .at ylike1_13 false, .at ylike1_20 true, .is ylike1_2 1, .ge (.a 0) (-9223372036854775808), .le (.a 0) 9223372036854775807]) : LikeQ val :=
  leafK h (by kernel_rfl)

theorem like1_55 (val : Nat → Int) (h : Holds val [.le (.a 0) 65535, .ge (.a 0) (-32768), .is (.shr ylike1_4 48) 0, .is ylike1_7 0, .at ylike1_9 true, .ne (.a 0) 0, .is (.wrap .i64 ylike1_3) 0, .at ylike1_28 false, .at ylike1_27 false, .at ylike1_12 true, .at ylike1_14 true, .at ylike1_13 false, .at ylike1_20 true, .is ylike1_2 1, .ge (.a 0) (-9223372036854775808), .le (.a 0) 9223372036854775807]) : LikeQ val := by
  exfalso
  have hb : Holds val (List.drop 13 _) := fun f hf => h f (List.mem_of_mem_drop hf)
  have ha : Holds val (List.take 1 _) := fun f hf => h f (List.mem_of_mem_take hf)
  have hc : Holds val (List.take 2 _) := fun f hf => h f (List.mem_of_mem_take hf)
  simp only [List.take_succ_cons, List.take_zero, List.drop_succ_cons, List.drop_zero, Holds, List.forall_mem_cons, List.not_mem_nil, false_implies, implies_true, and_true, Fact.holds, SB.eval, SX.eval, ylike1_0, ylike1_1, ylike1_2, ylike1_3, ylike1_4, ylike1_5, ylike1_6, ylike1_7, ylike1_8, ylike1_9, ylike1_10, ylike1_11, ylike1_12, ylike1_13, ylike1_14, ylike1_15, ylike1_16, ylike1_17, ylike1_18, ylike1_19, ylike1_20, ylike1_21, ylike1_22, ylike1_23, ylike1_24, ylike1_25, ylike1_26, ylike1_27, ylike1_28, wrapU, wrapI, fdivP, tmodP, beq_iff_eq, beq_eq_false_iff_ne, decide_eq_true_eq, decide_eq_false_iff_not, ne_eq] at h ha hb hc
  simp only [Int.reducePow] at h ha hb hc
  first | (clear h hc; omega) | (clear h; omega) | omega

theorem like1_56 (val : Nat → Int) (h : Holds val [.ne (.shr ylike1_4 48) 0, .is ylike1_7 0, .at ylike1_9 true, .ne (.a 0) 0, .is (.wrap .i64 ylike1_3) 0, .at ylike1_28 false, .at ylike1_27 false, .at ylike1_12 true, .at ylike1_14 true, .at ylike1_13 false, .at ylike1_20 true, .is ylike1_2 1, .ge (.a 0) (-9223372036854775808), .le (.a 0) 9223372036854775807]) : LikeQ val := by
  exfalso
  have hb : Holds val (List.drop 11 _) := fun f hf => h f (List.mem_of_mem_drop hf)
  have ha : Holds val (List.take 1 _) := fun f hf => h f (List.mem_of_mem_take hf)
  have hc : Holds val (List.take 2 _) := fun f hf => h f (List.mem_of_mem_take hf)
  simp only [List.take_succ_cons, List.take_zero, List.drop_succ_cons, List.drop_zero, Holds, List.forall_mem_cons, List.not_mem_nil, false_implies, implies_true, and_true, Fact.holds, SB.eval, SX.eval, ylike1_0, ylike1_1, ylike1_2, ylike1_3, ylike1_4, ylike1_5, ylike1_6, ylike1_7, ylike1_8, ylike1_9, ylike1_10, ylike1_11, ylike1_12, ylike1_13, ylike1_14, ylike1_15, ylike1_16, ylike1_17, ylike1_18, ylike1_19, ylike1_20, ylike1_21, ylike1_22, ylike1_23, ylike1_24, ylike1_25, ylike1_26, ylike1_27, ylike1_28, wrapU, wrapI, fdivP, tmodP, beq_iff_eq, beq_eq_false_iff_ne, decide_eq_true_eq, decide_eq_false_iff_not, ne_eq] at h ha hb hc
  simp only [Int.reducePow] at h ha hb hc
  first | (clear h hc; omega) | (clear h; omega) | omega

theorem like1_57 (val : Nat → Int) (h : Holds val [.ne ylike1_7 0, .at ylike1_9 true, .ne (.a 0) 0, .is (.wrap .i64 ylike1_3) 0, .at ylike1_28 false, .at ylike1_27 false, .at ylike1_12 true, .at ylike1_14 true, .at ylike1_13 false, .at ylike1_20 true, .is ylike1_2 1, .ge (.a 0) (-9223372036854775808), .le (.a 0) 9223372036854775807]) : LikeQ val := by
  exfalso
  have hb : Holds val (List.drop 10 _) := fun f hf => h f (List.mem_of_mem_drop hf)
  have ha : Holds val (List.take 1 _) := fun f hf => h f (List.mem_of_mem_take hf)
  have hc : Holds val (List.take 2 _) := fun f hf => h f (List.mem_of_mem_take hf)
  simp only [List.take_succ_cons, List.take_zero, List.drop_succ_cons, List.drop_zero, Holds, List.forall_mem_cons, List.not_mem_nil, false_implies, implies_true, and_true, Fact.holds, SB.eval, SX.eval, ylike1_0, ylike1_1, ylike1_2, ylike1_3, ylike1_4, ylike1_5, ylike1_6, ylike1_7, ylike1_8, ylike1_9, ylike1_10, ylike1_11, ylike1_12, ylike1_13, ylike1_14, ylike1_15, ylike1_16, ylike1_17, ylike1_18, ylike1_19, ylike1_20, ylike1_21, ylike1_22, ylike1_23, ylike1_24, ylike1_25, ylike1_26, ylike1_27, ylike1_28, wrapU, wrapI, fdivP, tmodP, beq_iff_eq, beq_eq_false_iff_ne, decide_eq_true_eq, decide_eq_false_iff_not, ne_eq] at h ha hb hc
  simp only [Int.reducePow] at h ha hb hc
  first | (clear h hc; omega) | (clear h; omega) | omega

theorem like1_58 (val : Nat → Int) (h : Holds val [.le (.a 0) (-32769), .at ylike1_9 false, .ne (.a 0) 0, .is (.wrap .i64 ylike1_3) 0, .at ylike1_28 false, .at ylike1_27 false, .at ylike1_12 true, .at ylike1_14 true, .at ylike1_13 false, .at ylike1_20 true, .is ylike1_2 1, .ge (.a 0) (-9223372036854775808), .le (.a 0) 9223372036854775807]) : LikeQ val :=
  leafK h (by kernel_rfl)

theorem like1_59 (val : Nat → Int) (h : Holds val [.ge (.a 0) 65536, .ge (.a 0) (-32768), .at ylike1_9 false, .ne (.a 0) 0, .is (.wrap .i64 ylike1_3) 0, .at ylike1_28 false, .at ylike1_27 false, .at ylike1_12 true, .at ylike1_14 true, .at ylike1_13 false, .at ylike1_20 true, .is ylike1_2 1, .ge (.a 0) (-9223372036854775808), .le (.a 0) 9223372036854775807]) : LikeQ val :=
  leafK h (by kernel_rfl)

theorem like1_60 (val : Nat → Int) (h : Holds val [.le (.a 0) 65535, .ge (.a 0) (-32768), .at ylike1_9 false, .ne (.a 0) 0, .is (.wrap .i64 ylike1_3) 0, .at ylike1_28 false, .at ylike1_27 false, .at ylike1_12 true, .at ylike1_14 true, .at ylike1_13 false, .at ylike1_20 true, .is ylike1_2 1, .ge (.a 0) (-9223372036854775808), .le (.a 0) 9223372036854775807]) : LikeQ val := by
  exfalso
  have hb : Holds val (List.drop 11 _) := fun f hf => h f (List.mem_of_mem_drop hf)
  have ha : Holds val (List.take 1 _) := fun f hf => h f (List.mem_of_mem_take hf)
  have hc : Holds val (List.take 2 _) := fun f hf => h f (List.mem_of_mem_take hf)
  simp only [List.take_succ_cons, List.take_zero, List.drop_succ_cons, List.drop_zero, Holds, List.forall_mem_cons, List.not_mem_nil, false_implies, implies_true, and_true, Fact.holds, SB.eval, SX.eval, ylike1_0, ylike1_1, ylike1_2, ylike1_3, ylike1_4, ylike1_5, ylike1_6, ylike1_7, ylike1_8, ylike1_9, ylike1_10, ylike1_11, ylike1_12, ylike1_13, ylike1_14, ylike1_15, ylike1_16, ylike1_17, ylike1_18, ylike1_19, ylike1_20, ylike1_21, ylike1_22, ylike1_23, ylike1_24, ylike1_25, ylike1_26, ylike1_27, ylike1_28, wrapU, wrapI, fdivP, tmodP, beq_iff_eq, beq_eq_false_iff_ne, decide_eq_true_eq, decide_eq_false_iff_not, ne_eq] at h ha hb hc
  simp only [Int.reducePow] at h ha hb hc
  first | (clear h hc; omega) | (clear h; omega) | omega

theorem like1_61 (val : Nat → Int) (h : Holds val [.ne (.wrap .i64 ylike1_3) 0, .at ylike1_28 false, .at ylike1_27 false, .at ylike1_12 true, .at ylike1_14 true, .at ylike1_13 false, .at ylike1_20 true, .is ylike1_2 1, .ge (.a 0) (-9223372036854775808), .le (.a 0) 9223372036854775807]) : LikeQ val := by
  exfalso
  have hb : Holds val (List.drop 7 _) := fun f hf => h f (List.mem_of_mem_drop hf)
  have ha : Holds val (List.take 1 _) := fun f hf => h f (List.mem_of_mem_take hf)
  have hc : Holds val (List.take 2 _) := fun f hf => h f (List.mem_of_mem_take hf)
  simp only [List.take_succ_cons, List.take_zero, List.drop_succ_cons, List.drop_zero, Holds, List.forall_mem_cons, List.not_mem_nil, false_implies, implies_true, and_true, Fact.holds, SB.eval, SX.eval, ylike1_0, ylike1_1, ylike1_2, ylike1_3, ylike1_4, ylike1_5, ylike1_6, ylike1_7, ylike1_8, ylike1_9, ylike1_10, ylike1_11, ylike1_12, ylike1_13, ylike1_14, ylike1_15, ylike1_16, ylike1_17, ylike1_18, ylike1_19, ylike1_20, ylike1_21, ylike1_22, ylike1_23, ylike1_24, ylike1_25, ylike1_26, ylike1_27, ylike1_28, wrapU, wrapI, fdivP, tmodP, beq_iff_eq, beq_eq_false_iff_ne, decide_eq_true_eq, decide_eq_false_iff_not, ne_eq] at h ha hb hc
  simp only [Int.reducePow] at h ha hb hc
  first | (clear h hc; omega) | (clear h; omega) | omega

theorem like1_62 (val : Nat → Int) (h : Holds val [.at ylike1_12 false, .at ylike1_14 true, .at ylike1_13 false, .at ylike1_20 true, .is ylike1_2 1, .ge (.a 0) (-9223372036854775808), .le (.a 0) 9223372036854775807]) : LikeQ val := by
  exfalso
  have hb : Holds val (List.drop 4 _) := fun f hf => h f (List.mem_of_mem_drop hf)
  have ha : Holds val (List.take 1 _) := fun f hf => h f (List.mem_of_mem_take hf)
  have hc : Holds val (List.take 2 _) := fun f hf => h f (List.mem_of_mem_take hf)
  simp only [List.take_succ_cons, List.take_zero, List.drop_succ_cons, List.drop_zero, Holds, List.forall_mem_cons, List.not_mem_nil, false_implies, implies_true, and_true, Fact.holds, SB.eval, SX.eval, ylike1_0, ylike1_1, ylike1_2, ylike1_3, ylike1_4, ylike1_5, ylike1_6, ylike1_7, ylike1_8, ylike1_9, ylike1_10, ylike1_11, ylike1_12, ylike1_13, ylike1_14, ylike1_15, ylike1_16, ylike1_17, ylike1_18, ylike1_19, ylike1_20, ylike1_21, ylike1_22, ylike1_23, ylike1_24, ylike1_25, ylike1_26, ylike1_27, ylike1_28, wrapU, wrapI, fdivP, tmodP, beq_iff_eq, beq_eq_false_iff_ne, decide_eq_true_eq, decide_eq_false_iff_not, ne_eq] at h ha hb hc
  simp only [Int.reducePow] at h ha hb hc
  first | (clear h hc; omega) | (clear h; omega) | omega

theorem like1_63 (val : Nat → Int) (h : Holds val [.is (.a 0) 0, .is (.wrap .i64 ylike1_3) 0, .at ylike1_26 true, .at ylike1_27 true, .is (.shr ylike1_4 48) 0, .at ylike1_14 false, .at ylike1_13 false, .at ylike1_20 true, .is ylike1_2 1, .ge (.a 0) (-9223372036854775808), .le (.a 0) 9223372036854775807]) : LikeQ val :=
  leafK h (by kernel_rfl)

theorem like1_64 (val : Nat → Int) (h : Holds val [.le (.a 0) (-32769), .ne (.a 0) 0, .is (.wrap .i64 ylike1_3) 0, .at ylike1_26 true, .at ylike1_27 true, .is (.shr ylike1_4 48) 0, .at ylike1_14 false, .at ylike1_13 false, .at ylike1_20 true, .is ylike1_2 1, .ge (.a 0) (-9223372036854775808), .le (.a 0) 9223372036854775807]) : LikeQ val :=
  leafK h (by kernel_rfl)

theorem like1_65 (val : Nat → Int) (h : Holds val [.ge (.a 0) 65536, .ge (.a 0) (-32768), .ne (.a 0) 0, .is (.wrap .i64 ylike1_3) 0, .at ylike1_26 true, .at ylike1_27 true, .is (.shr ylike1_4 48) 0, .at ylike1_14 false, .at ylike1_13 false, .at ylike1_20 true, .is ylike1_2 1, .ge (.a 0) (-9223372036854775808), .le (.a 0) 9223372036854775807]) : LikeQ val :=
  leafK h (by kernel_rfl)

theorem like1_66 (val : Nat → Int) (h : Holds val [.le (.a 0) 65535, .ge (.a 0) (-32768), .ne (.a 0) 0, .is (.wrap .i64 ylike1_3) 0, .at ylike1_26 true, .at ylike1_27 true, .is (.shr ylike1_4 48) 0, .at ylike1_14 false, .at ylike1_13 false, .at ylike1_20 true, .is ylike1_2 1, .ge (.a 0) (-9223372036854775808), .le (.a 0) 9223372036854775807]) : LikeQ val := by
  exfalso
  have hb : Holds val (List.drop 10 _) := fun f hf => h f (List.mem_of_mem_drop hf)
  have ha : Holds val (List.take 1 _) := fun f hf => h f (List.mem_of_mem_take hf)
  have hc : Holds val (List.take 2 _) := fun f hf => h f (List.mem_of_mem_take hf)
  simp only [List.take_succ_cons, List.take_zero, List.drop_succ_cons, List.drop_zero, Holds, List.forall_mem_cons, List.not_mem_nil, false_implies, implies_true, and_true, Fact.holds, SB.eval, SX.eval, ylike1_0, ylike1_1, ylike1_2, ylike1_3, ylike1_4, ylike1_5, ylike1_6, ylike1_7, ylike1_8, ylike1_9, ylike1_10, ylike1_11, ylike1_12, ylike1_13, ylike1_14, ylike1_15, ylike1_16, ylike1_17, ylike1_18, ylike1_19, ylike1_20, ylike1_21, ylike1_22, ylike1_23, ylike1_24, ylike1_25, ylike1_26, ylike1_27, ylike1_28, wrapU, wrapI, fdivP, tmodP, beq_iff_eq, beq_eq_false_iff_ne, decide_eq_true_eq, decide_eq_false_iff_not, ne_eq] at h ha hb hc
  simp only [Int.reducePow] at h ha hb hc
  first | (clear h hc; omega) | (clear h; omega) | omega

theorem like1_67 (val : Nat → Int) (h : Holds val [.ne (.wrap .i64 ylike1_3) 0, .at ylike1_26 true, .at ylike1_27 true, .is (.shr ylike1_4 48) 0, .at ylike1_14 false, .at ylike1_13 false, .at ylike1_20 true, .is ylike1_2 1, .ge (.a 0) (-9223372036854775808), .le (.a 0) 9223372036854775807]) : LikeQ val := by
  exfalso
  have hb : Holds val (List.drop 7 _) := fun f hf => h f (List.mem_of_mem_drop hf)
  have ha : Holds val (List.take 1 _) := fun f hf => h f (List.mem_of_mem_take hf)
  have hc : Holds val (List.take 2 _) := fun f hf => h f (List.mem_of_mem_take hf)
  simp only [List.take_succ_cons, List.take_zero, List.drop_succ_cons, List.drop_zero, Holds, List.forall_mem_cons, List.not_mem_nil, false_implies, implies_true, and_true, Fact.holds, SB.eval, SX.eval, ylike1_0, ylike1_1, ylike1_2, ylike1_3, ylike1_4, ylike1_5, ylike1_6, ylike1_7, ylike1_8, ylike1_9, ylike1_10, ylike1_11, ylike1_12, ylike1_13, ylike1_14, ylike1_15, ylike1_16, ylike1_17, ylike1_18, ylike1_19, ylike1_20, ylike1_21, ylike1_22, ylike1_23, ylike1_24, ylike1_25, ylike1_26, ylike1_27, ylike1_28, wrapU, wrapI, fdivP, tmodP, beq_iff_eq, beq_eq_false_iff_ne, decide_eq_true_eq, decide_eq_false_iff_not, ne_eq] at h ha hb hc
  simp only [Int.reducePow] at h ha hb hc
  first | (clear h hc; omega) | (clear h; omega) | omega

theorem like1_68 (val : Nat → Int) (h : Holds val [.at ylike1_26 false, .at ylike1_27 true, .is (.shr ylike1_4 48) 0, .at ylike1_14 false, .at ylike1_13 false, .at ylike1_20 true, .is ylike1_2 1, .ge (.a 0) (-9223372036854775808), .le (.a 0) 9223372036854775807]) : LikeQ val := by
  exfalso
  have hb : Holds val (List.drop 6 _) := fun f hf => h f (List.mem_of_mem_drop hf)
  have ha : Holds val (List.take 1 _) := fun f hf => h f (List.mem_of_mem_take hf)
  have hc : Holds val (List.take 2 _) := fun f hf => h f (List.mem_of_mem_take hf)
  simp only [List.take_succ_cons, List.take_zero, List.drop_succ_cons, List.drop_zero, Holds, List.forall_mem_cons, List.not_mem_nil, false_implies, implies_true, and_true, Fact.holds, SB.eval, SX.eval, ylike1_0, ylike1_1, ylike1_2, ylike1_3, ylike1_4, ylike1_5, ylike1_6, ylike1_7, ylike1_8, ylike1_9, ylike1_10, ylike1_11, ylike1_12, ylike1_13, ylike1_14, ylike1_15, ylike1_16, ylike1_17, ylike1_18, ylike1_19, ylike1_20, ylike1_21, ylike1_22, ylike1_23, ylike1_24, ylike1_25, ylike1_26, ylike1_27, ylike1_28, wrapU, wrapI, fdivP, tmodP, beq_iff_eq, beq_eq_false_iff_ne, decide_eq_true_eq, decide_eq_false_iff_not, ne_eq] at h ha hb hc
  simp only [Int.reducePow] at h ha hb hc
  first | (clear h hc; omega) | (clear h; omega) | omega

theorem like1_69 (val : Nat → Int) (h : Holds val [.is (.a 0) 0, .is (.wrap .i64 ylike1_3) 0, .at ylike1_26 true, .at ylike1_28 true, .at ylike1_27 false, .is (.shr ylike1_4 48) 0, .at ylike1_14 false, .at ylike1_13 false, .at ylike1_20 true, .is ylike1_2 1, .ge (.a 0) (-9223372036854775808), .le (.a 0) 9223372036854775807]) : LikeQ val :=
  leafK h (by kernel_rfl)

theorem like1_70 (val : Nat → Int) (h : Holds val [.le (.a 0) (-32769), .ne (.a 0) 0, .is (.wrap .i64 ylike1_3) 0, .at ylike1_26 true, .at ylike1_28 true, .at ylike1_27 false, .is (.shr ylike1_4 48) 0, .at ylike1_14 false, .at ylike1_13 false, .at ylike1_20 true, .is ylike1_2 1, .ge (.a 0) (-9223372036854775808), .le (.a 0) 9223372036854775807]) : LikeQ val :=
  leafK h (by kernel_rfl)

theorem like1_71 (val : Nat → Int) (h : Holds val [.ge (.a 0) 65536, .ge (.a 0) (-32768), .ne (.a 0) 0, .is (.wrap .i64 ylike1_3) 0, .at ylike1_26 true, .at ylike1_28 true, .at ylike1_27 false, .is (.shr ylike1_4 48) 0, .at ylike1_14 false, .at ylike1_13 false, .at ylike1_20 true, .is ylike1_2 1, .ge (.a 0) (-9223372036854775808), .le (.a 0) 9223372036854775807]) : LikeQ val :=
  leafK h (by kernel_rfl)

theorem like1_72 (val : Nat → Int) (h : Holds val [.le (.a 0) 65535, .ge (.a 0) (-32768), .ne (.a 0) 0, .is (.wrap .i64 ylike1_3) 0, .at ylike1_26 true, .at ylike1_28 true, .at ylike1_27 false, .is (.shr ylike1_4 48) 0, .at ylike1_14 false, .at ylike1_13 false, .at ylike1_20 true, .is ylike1_2 1, .ge (.a 0) (-9223372036854775808), .le (.a 0) 9223372036854775807]) : LikeQ val := by
  exfalso
  have hb : Holds val (List.drop 11 _) := fun f hf => h f (List.mem_of_mem_drop hf)
  have ha : Holds val (List.take 1 _) := fun f hf => h f (List.mem_of_mem_take hf)
  have hc : Holds val (List.take 2 _) := fun f hf => h f (List.mem_of_mem_take hf)
  simp only [List.take_succ_cons, List.take_zero, List.drop_succ_cons, List.drop_zero, Holds, List.forall_mem_cons, List.not_mem_nil, false_implies, implies_true, and_true, Fact.holds, SB.eval, SX.eval, ylike1_0, ylike1_1, ylike1_2, ylike1_3, ylike1_4, ylike1_5, ylike1_6, ylike1_7, ylike1_8, ylike1_9, ylike1_10, ylike1_11, ylike1_12, ylike1_13, ylike1_14, ylike1_15, ylike1_16, ylike1_17, ylike1_18, ylike1_19, ylike1_20, ylike1_21, ylike1_22, ylike1_23, ylike1_24, ylike1_25, ylike1_26, ylike1_27, ylike1_28, wrapU, wrapI, fdivP, tmodP, beq_iff_eq, beq_eq_false_iff_ne, decide_eq_true_eq, decide_eq_false_iff_not, ne_eq] at h ha hb hc
  simp only [Int.reducePow] at h ha hb hc
  first | (clear h hc; omega) | (clear h; omega) | omega

theorem like1_73 (val : Nat → Int) (h : Holds val [.ne (.wrap .i64 ylike1_3) 0, .at ylike1_26 true, .at ylike1_28 true, .at ylike1_27 false, .is (.shr ylike1_4 48) 0, .at ylike1_14 false, .at ylike1_13 false, .at ylike1_20 true, .is ylike1_2 1, .ge (.a 0) (-9223372036854775808), .le (.a 0) 9223372036854775807]) : LikeQ val := by
  exfalso
  have hb : Holds val (List.drop 8 _) := fun f hf => h f (List.mem_of_mem_drop hf)
  have ha : Holds val (List.take 1 _) := fun f hf => h f (List.mem_of_mem_take hf)
  have hc : Holds val (List.take 2 _) := fun f hf => h f (List.mem_of_mem_take hf)
  simp only [List.take_succ_cons, List.take_zero, List.drop_succ_cons, List.drop_zero, Holds, List.forall_mem_cons, List.not_mem_nil, false_implies, implies_true, and_true, Fact.holds, SB.eval, SX.eval, ylike1_0, ylike1_1, ylike1_2, ylike1_3, ylike1_4, ylike1_5, ylike1_6, ylike1_7, ylike1_8, ylike1_9, ylike1_10, ylike1_11, ylike1_12, ylike1_13, ylike1_14, ylike1_15, ylike1_16, ylike1_17, ylike1_18, ylike1_19, ylike1_20, ylike1_21, ylike1_22, ylike1_23, ylike1_24, ylike1_25, ylike1_26, ylike1_27, ylike1_28, wrapU, wrapI, fdivP, tmodP, beq_iff_eq, beq_eq_false_iff_ne, decide_eq_true_eq, decide_eq_false_iff_not, ne_eq] at h ha hb hc
  simp only [Int.reducePow] at h ha hb hc
  first | (clear h hc; omega) | (clear h; omega) | omega

theorem like1_74 (val : Nat → Int) (h : Holds val [.at ylike1_26 false, .at ylike1_28 true, .at ylike1_27 false, .is (.shr ylike1_4 48) 0, .at ylike1_14 false, .at ylike1_13 false, .at ylike1_20 true, .is ylike1_2 1, .ge (.a 0) (-9223372036854775808), .le (.a 0) 9223372036854775807]) : LikeQ val := by
  exfalso
  have hb : Holds val (List.drop 7 _) := fun f hf => h f (List.mem_of_mem_drop hf)
  have ha : Holds val (List.take 1 _) := fun f hf => h f (List.mem_of_mem_take hf)
  have hc : Holds val (List.take 2 _) := fun f hf => h f (List.mem_of_mem_take hf)
  simp only [List.take_succ_cons, List.take_zero, List.drop_succ_cons, List.drop_zero, Holds, List.forall_mem_cons, List.not_mem_nil, false_implies, implies_true, and_true, Fact.holds, SB.eval, SX.eval, ylike1_0, ylike1_1, ylike1_2, ylike1_3, ylike1_4, ylike1_5, ylike1_6, ylike1_7, ylike1_8, ylike1_9, ylike1_10, ylike1_11, ylike1_12, ylike1_13, ylike1_14, ylike1_15, ylike1_16, ylike1_17, ylike1_18, ylike1_19, ylike1_20, ylike1_21, ylike1_22, ylike1_23, ylike1_24, ylike1_25, ylike1_26, ylike1_27, ylike1_28, wrapU, wrapI, fdivP, tmodP, beq_iff_eq, beq_eq_false_iff_ne, decide_eq_true_eq, decide_eq_false_iff_not, ne_eq] at h ha hb hc
  simp only [Int.reducePow] at h ha hb hc
  first | (clear h hc; omega) | (clear h; omega) | omega

theorem like1_75 (val : Nat → Int) (h : Holds val [.is (.a 0) 0, .is (.wrap .i64 ylike1_3) 0, .at ylike1_28 false, .at ylike1_27 false, .is (.shr ylike1_4 48) 0, .at ylike1_14 false, .at ylike1_13 false, .at ylike1_20 true, .is ylike1_2 1, .ge (.a 0) (-9223372036854775808), .le (.a 0) 9223372036854775807]) : LikeQ val :=
  leafK h (by kernel_rfl)

theorem like1_76 (val : Nat → Int) (h : Holds val [.le (.a 0) (-32769), .ne (.a 0) 0, .is (.wrap .i64 ylike1_3) 0, .at ylike1_28 false, .at ylike1_27 false, .is (.shr ylike1_4 48) 0, .at ylike1_14 false, .at ylike1_13 false, .at ylike1_20 true, .is ylike1_2 1, .ge (.a 0) (-9223372036854775808), .le (.a 0) 9223372036854775807]) : LikeQ val :=
  leafK h (by kernel_rfl)

theorem like1_77 (val : Nat → Int) (h : Holds val [.ge (.a 0) 65536, .ge (.a 0) (-32768), .ne (.a 0) 0, .is (.wrap .i64 ylike1_3) 0, .at ylike1_28 false, .at ylike1_27 false, .is (.shr ylike1_4 48) 0, .at ylike1_14 false, .at ylike1_13 false, .at ylike1_20 true, .is ylike1_2 1, .ge (.a 0) (-9223372036854775808), .le (.a 0) 9223372036854775807]) : LikeQ val :=
  leafK h (by kernel_rfl)

theorem like1_78 (val : Nat → Int) (h : Holds val [.le (.a 0) 65535, .ge (.a 0) (-32768), .ne (.a 0) 0, .is (.wrap .i64 ylike1_3) 0, .at ylike1_28 false, .at ylike1_27 false, .is (.shr ylike1_4 48) 0, .at ylike1_14 false, .at ylike1_13 false, .at ylike1_20 true, .is ylike1_2 1, .ge (.a 0) (-9223372036854775808), .le (.a 0) 9223372036854775807]) : LikeQ val := by
  exfalso
  have hb : Holds val (List.drop 10 _) := fun f hf => h f (List.mem_of_mem_drop hf)
  have ha : Holds val (List.take 1 _) := fun f hf => h f (List.mem_of_mem_take hf)
  have hc : Holds val (List.take 2 _) := fun f hf => h f (List.mem_of_mem_take hf)
  simp only [List.take_succ_cons, List.take_zero, List.drop_succ_cons, List.drop_zero, Holds, List.forall_mem_cons, List.not_mem_nil, false_implies, implies_true, and_true, Fact.holds, SB.eval, SX.eval, ylike1_0, ylike1_1, ylike1_2, ylike1_3, ylike1_4, ylike1_5, ylike1_6, ylike1_7, ylike1_8, ylike1_9, ylike1_10, ylike1_11, ylike1_12, ylike1_13, ylike1_14, ylike1_15, ylike1_16, ylike1_17, ylike1_18, ylike1_19, ylike1_20, ylike1_21, ylike1_22, ylike1_23, ylike1_24, ylike1_25, ylike1_26, ylike1_27, ylike1_28, wrapU, wrapI, fdivP, tmodP, beq_iff_eq, beq_eq_false_iff_ne, decide_eq_true_eq, decide_eq_false_iff_not, ne_eq] at h ha hb hc
  simp only [Int.reducePow] at h ha hb hc
  first | (clear h hc; omega) | (clear h; omega) | omega

theorem like1_79 (val : Nat → Int) (h : Holds val [.ne (.wrap .i64 ylike1_3) 0, .at ylike1_28 false, .at ylike1_27 false, .is (.shr ylike1_4 48) 0, .at ylike1_14 false, .at ylike1_13 false, .at ylike1_20 true, .is ylike1_2 1, .ge (.a 0) (-9223372036854775808), .le (.a 0) 9223372036854775807]) : LikeQ val := by
  exfalso
  have hb : Holds val (List.drop 7 _) := fun f hf => h f (List.mem_of_mem_drop hf)
  have ha : Holds val (List.take 1 _) := fun f hf => h f (List.mem_of_mem_take hf)
  have hc : Holds val (List.take 2 _) := fun f hf => h f (List.mem_of_mem_take hf)
  simp only [List.take_succ_cons, List.take_zero, List.drop_succ_cons, List.drop_zero, Holds, List.forall_mem_cons, List.not_mem_nil, false_implies, implies_true, and_true, Fact.holds, SB.eval, SX.eval, ylike1_0, ylike1_1, ylike1_2, ylike1_3, ylike1_4, ylike1_5, ylike1_6, ylike1_7, ylike1_8, ylike1_9, ylike1_10, ylike1_11, ylike1_12, ylike1_13, ylike1_14, ylike1_15, ylike1_16, ylike1_17, ylike1_18, ylike1_19, ylike1_20, ylike1_21, ylike1_22, ylike1_23, ylike1_24, ylike1_25, ylike1_26, ylike1_27, ylike1_28, wrapU, wrapI, fdivP, tmodP, beq_iff_eq, beq_eq_false_iff_ne, decide_eq_true_eq, decide_eq_false_iff_not, ne_eq] at h ha hb hc
  simp only [Int.reducePow] at h ha hb hc
  first | (clear h hc; omega) | (clear h; omega) | omega

theorem like1_80 (val : Nat → Int) (h : Holds val [.ne (.shr ylike1_4 48) 0, .at ylike1_14 false, .at ylike1_13 false, .at ylike1_20 true, .is ylike1_2 1, .ge (.a 0) (-9223372036854775808), .le (.a 0) 9223372036854775807]) : LikeQ val := by
  exfalso
  have hb : Holds val (List.drop 4 _) := fun f hf => h f (List.mem_of_mem_drop hf)
  have ha : Holds val (List.take 1 _) := fun f hf => h f (List.mem_of_mem_take hf)
  have hc : Holds val (List.take 2 _) := fun f hf => h f (List.mem_of_mem_take hf)
  simp only [List.take_succ_cons, List.take_zero, List.drop_succ_cons, List.drop_zero, Holds, List.forall_mem_cons, List.not_mem_nil, false_implies, implies_true, and_true, Fact.holds, SB.eval, SX.eval, ylike1_0, ylike1_1, ylike1_2, ylike1_3, ylike1_4, ylike1_5, ylike1_6, ylike1_7, ylike1_8, ylike1_9, ylike1_10, ylike1_11, ylike1_12, ylike1_13, ylike1_14, ylike1_15, ylike1_16, ylike1_17, ylike1_18, ylike1_19, ylike1_20, ylike1_21, ylike1_22, ylike1_23, ylike1_24, ylike1_25, ylike1_26, ylike1_27, ylike1_28, wrapU, wrapI, fdivP, tmodP, beq_iff_eq, beq_eq_false_iff_ne, decide_eq_true_eq, decide_eq_false_iff_not, ne_eq] at h ha hb hc
  simp only [Int.reducePow] at h ha hb hc
  first | (clear h hc; omega) | (clear h; omega) | omega

theorem like1_81 (val : Nat → Int) (h : Holds val [.is ylike1_23 0, .is ylike1_24 0, .le (.wrap .i64 ylike1_3) 65535, .ge (.wrap .i64 ylike1_3) 0, .le (.shr ylike1_4 48) 32767, .ge (.shr ylike1_4 48) (-32768), .at ylike1_19 true, .at ylike1_25 true, .at ylike1_26 true, .at ylike1_27 true, .at ylike1_12 true, .at ylike1_13 true, .at ylike1_9 true, .at ylike1_20 false, .is ylike1_2 1, .ge (.a 0) (-9223372036854775808), .le (.a 0) 9223372036854775807]) : LikeQ val :=
  leafK h (by kernel_rfl)

theorem like1_82 (val : Nat → Int) (h : Holds val [.ne ylike1_23 0, .is ylike1_24 0, .le (.wrap .i64 ylike1_3) 65535, .ge (.wrap .i64 ylike1_3) 0, .le (.shr ylike1_4 48) 32767, .ge (.shr ylike1_4 48) (-32768), .at ylike1_19 true, .at ylike1_25 true, .at ylike1_26 true, .at ylike1_27 true, .at ylike1_12 true, .at ylike1_13 true, .at ylike1_9 true, .at ylike1_20 false, .is ylike1_2 1, .ge (.a 0) (-9223372036854775808), .le (.a 0) 9223372036854775807]) : LikeQ val := by
  exfalso
  have hb : Holds val (List.drop 14 _) := fun f hf => h f (List.mem_of_mem_drop hf)
  have ha : Holds val (List.take 1 _) := fun f hf => h f (List.mem_of_mem_take hf)
  have hc : Holds val (List.take 2 _) := fun f hf => h f (List.mem_of_mem_take hf)
  simp only [List.take_succ_cons, List.take_zero, List.drop_succ_cons, List.drop_zero, Holds, List.forall_mem_cons, List.not_mem_nil, false_implies, implies_true, and_true, Fact.holds, SB.eval, SX.eval, ylike1_0, ylike1_1, ylike1_2, ylike1_3, ylike1_4, ylike1_5, ylike1_6, ylike1_7, ylike1_8, ylike1_9, ylike1_10, ylike1_11, ylike1_12, ylike1_13, ylike1_14, ylike1_15, ylike1_16, ylike1_17, ylike1_18, ylike1_19, ylike1_20, ylike1_21, ylike1_22, ylike1_23, ylike1_24, ylike1_25, ylike1_26, ylike1_27, ylike1_28, wrapU, wrapI, fdivP, tmodP, beq_iff_eq, beq_eq_false_iff_ne, decide_eq_true_eq, decide_eq_false_iff_not, ne_eq] at h ha hb hc
  simp only [Int.reducePow] at h ha hb hc
  first | (clear h hc; omega) | (clear h; omega) | omega

theorem like1_83 (val : Nat → Int) (h : Holds val [.ne ylike1_24 0, .le (.wrap .i64 ylike1_3) 65535, .ge (.wrap .i64 ylike1_3) 0, .le (.shr ylike1_4 48) 32767, .ge (.shr ylike1_4 48) (-32768), .at ylike1_19 true, .at ylike1_25 true, .at ylike1_26 true, .at ylike1_27 true, .at ylike1_12 true, .at ylike1_13 true, .at ylike1_9 true, .at ylike1_20 false, .is ylike1_2 1, .ge (.a 0) (-9223372036854775808), .le (.a 0) 9223372036854775807]) : LikeQ val := by
  exfalso
  have hb : Holds val (List.drop 13 _) := fun f hf => h f (List.mem_of_mem_drop hf)
  have ha : Holds val (List.take 1 _) := fun f hf => h f (List.mem_of_mem_take hf)
  have hc : Holds val (List.take 2 _) := fun f hf => h f (List.mem_of_mem_take hf)
  simp only [List.take_succ_cons, List.take_zero, List.drop_succ_cons, List.drop_zero, Holds, List.forall_mem_cons, List.not_mem_nil, false_implies, implies_true, and_true, Fact.holds, SB.eval, SX.eval, ylike1_0, ylike1_1, ylike1_2, ylike1_3, ylike1_4, ylike1_5, ylike1_6, ylike1_7, ylike1_8, ylike1_9, ylike1_10, ylike1_11, ylike1_12, ylike1_13, ylike1_14, ylike1_15, ylike1_16, ylike1_17, ylike1_18, ylike1_19, ylike1_20, ylike1_21, ylike1_22, ylike1_23, ylike1_24, ylike1_25, ylike1_26, ylike1_27, ylike1_28, wrapU, wrapI, fdivP, tmodP, beq_iff_eq, beq_eq_false_iff_ne, decide_eq_true_eq, decide_eq_false_iff_not, ne_eq] at h ha hb hc
  simp only [Int.reducePow] at h ha hb hc
  first | (clear h hc; omega) | (clear h; omega) | omega

theorem like1_84 (val : Nat → Int) (h : Holds val [.ge (.wrap .i64 ylike1_3) 65536, .ge (.wrap .i64 ylike1_3) 0, .le (.shr ylike1_4 48) 32767, .ge (.shr ylike1_4 48) (-32768), .at ylike1_19 true, .at ylike1_25 true, .at ylike1_26 true, .at ylike1_27 true, .at ylike1_12 true, .at ylike1_13 true, .at ylike1_9 true, .at ylike1_20 false, .is ylike1_2 1, .ge (.a 0) (-9223372036854775808), .le (.a 0) 9223372036854775807]) : LikeQ val := by
  exfalso
  have hb : Holds val (List.drop 12 _) := fun f hf => h f (List.mem_of_mem_drop hf)
  have ha : Holds val (List.take 1 _) := fun f hf => h f (List.mem_of_mem_take hf)
  have hc : Holds val (List.take 2 _) := fun f hf => h f (List.mem_of_mem_take hf)
  simp only [List.take_succ_cons, List.take_zero, List.drop_succ_cons, List.drop_zero, Holds, List.forall_mem_cons, List.not_mem_nil, false_implies, implies_true, and_true, Fact.holds, SB.eval, SX.eval, ylike1_0, ylike1_1, ylike1_2, ylike1_3, ylike1_4, ylike1_5, ylike1_6, ylike1_7, ylike1_8, ylike1_9, ylike1_10, ylike1_11, ylike1_12, ylike1_13, ylike1_14, ylike1_15, ylike1_16, ylike1_17, ylike1_18, ylike1_19, ylike1_20, ylike1_21, ylike1_22, ylike1_23, ylike1_24, ylike1_25, ylike1_26, ylike1_27, ylike1_28, wrapU, wrapI, fdivP, tmodP, beq_iff_eq, beq_eq_false_iff_ne, decide_eq_true_eq, decide_eq_false_iff_not, ne_eq] at h ha hb hc
  simp only [Int.reducePow] at h ha hb hc
  first | (clear h hc; omega) | (clear h; omega) | omega

theorem like1_85 (val : Nat → Int) (h : Holds val [.le (.wrap .i64 ylike1_3) (-1), .le (.shr ylike1_4 48) 32767, .ge (.shr ylike1_4 48) (-32768), .at ylike1_19 true, .at ylike1_25 true, .at ylike1_26 true, .at ylike1_27 true, .at ylike1_12 true, .at ylike1_13 true, .at ylike1_9 true, .at ylike1_20 false, .is ylike1_2 1, .ge (.a 0) (-9223372036854775808), .le (.a 0) 9223372036854775807]) : LikeQ val := by
  exfalso
  have hb : Holds val (List.drop 11 _) := fun f hf => h f (List.mem_of_mem_drop hf)
  have ha : Holds val (List.take 1 _) := fun f hf => h f (List.mem_of_mem_take hf)
  have hc : Holds val (List.take 2 _) := fun f hf => h f (List.mem_of_mem_take hf)
  simp only [List.take_succ_cons, List.take_zero, List.drop_succ_cons, List.drop_zero, Holds, List.forall_mem_cons, List.not_mem_nil, false_implies, implies_true, and_true, Fact.holds, SB.eval, SX.eval, ylike1_0, ylike1_1, ylike1_2, ylike1_3, ylike1_4, ylike1_5, ylike1_6, ylike1_7, ylike1_8, ylike1_9, ylike1_10, ylike1_11, ylike1_12, ylike1_13, ylike1_14, ylike1_15, ylike1_16, ylike1_17, ylike1_18, ylike1_19, ylike1_20, ylike1_21, ylike1_22, ylike1_23, ylike1_24, ylike1_25, ylike1_26, ylike1_27, ylike1_28, wrapU, wrapI, fdivP, tmodP, beq_iff_eq, beq_eq_false_iff_ne, decide_eq_true_eq, decide_eq_false_iff_not, ne_eq] at h ha hb hc
  simp only [Int.reducePow] at h ha hb hc
  first | (clear h hc; omega) | (clear h; omega) | omega

theorem like1_86 (val : Nat → Int) (h : Holds val [.ge (.shr ylike1_4 48) 32768, .ge (.shr ylike1_4 48) (-32768), .at ylike1_19 true, .at ylike1_25 true, .at ylike1_26 true, .at ylike1_27 true, .at ylike1_12 true, .at ylike1_13 true, .at ylike1_9 true, .at ylike1_20 false, .is ylike1_2 1, .ge (.a 0) (-9223372036854775808), .le (.a 0) 9223372036854775807]) : LikeQ val := by
  exfalso
  have hb : Holds val (List.drop 10 _) := fun f hf => h f (List.mem_of_mem_drop hf)
  have ha : Holds val (List.take 1 _) := fun f hf => h f (List.mem_of_mem_take hf)
  have hc : Holds val (List.take 2 _) := fun f hf => h f (List.mem_of_mem_take hf)
  simp only [List.take_succ_cons, List.take_zero, List.drop_succ_cons, List.drop_zero, Holds, List.forall_mem_cons, List.not_mem_nil, false_implies, implies_true, and_true, Fact.holds, SB.eval, SX.eval, ylike1_0, ylike1_1, ylike1_2, ylike1_3, ylike1_4, ylike1_5, ylike1_6, ylike1_7, ylike1_8, ylike1_9, ylike1_10, ylike1_11, ylike1_12, ylike1_13, ylike1_14, ylike1_15, ylike1_16, ylike1_17, ylike1_18, ylike1_19, ylike1_20, ylike1_21, ylike1_22, ylike1_23, ylike1_24, ylike1_25, ylike1_26, ylike1_27, ylike1_28, wrapU, wrapI, fdivP, tmodP, beq_iff_eq, beq_eq_false_iff_ne, decide_eq_true_eq, decide_eq_false_iff_not, ne_eq] at h ha hb hc
  simp only [Int.reducePow] at h ha hb hc
  first | (clear h hc; omega) | (clear h; omega) | omega

theorem like1_87 (val : Nat → Int) (h : Holds val [.le (.shr ylike1_4 48) (-32769), .at ylike1_19 true, .at ylike1_25 true, .at ylike1_26 true, .at ylike1_27 true, .at ylike1_12 true, .at ylike1_13 true, .at ylike1_9 true, .at ylike1_20 false, .is ylike1_2 1, .ge (.a 0) (-9223372036854775808), .le (.a 0) 9223372036854775807]) : LikeQ val := by
  exfalso
  have hb : Holds val (List.drop 9 _) := fun f hf => h f (List.mem_of_mem_drop hf)
  have ha : Holds val (List.take 1 _) := fun f hf => h f (List.mem_of_mem_take hf)
  have hc : Holds val (List.take 2 _) := fun f hf => h f (List.mem_of_mem_take hf)
  simp only [List.take_succ_cons, List.take_zero, List.drop_succ_cons, List.drop_zero, Holds, List.forall_mem_cons, List.not_mem_nil, false_implies, implies_true, and_true, Fact.holds, SB.eval, SX.eval, ylike1_0, ylike1_1, ylike1_2, ylike1_3, ylike1_4, ylike1_5, ylike1_6, ylike1_7, ylike1_8, ylike1_9, ylike1_10, ylike1_11, ylike1_12, ylike1_13, ylike1_14, ylike1_15, ylike1_16, ylike1_17, ylike1_18, ylike1_19, ylike1_20, ylike1_21, ylike1_22, ylike1_23, ylike1_24, ylike1_25, ylike1_26, ylike1_27, ylike1_28, wrapU, wrapI, fdivP, tmodP, beq_iff_eq, beq_eq_false_iff_ne, decide_eq_true_eq, decide_eq_false_iff_not, ne_eq] at h ha hb hc
  simp only [Int.reducePow] at h ha hb hc
  first | (clear h hc; omega) | (clear h; omega) | omega

theorem like1_88 (val : Nat → Int) (h : Holds val [.at ylike1_19 false, .at ylike1_25 true, .at ylike1_26 true, .at ylike1_27 true, .at ylike1_12 true, .at ylike1_13 true, .at ylike1_9 true, .at ylike1_20 false, .is ylike1_2 1, .ge (.a 0) (-9223372036854775808), .le (.a 0) 9223372036854775807]) : LikeQ val := by
  exfalso
  have hb : Holds val (List.drop 8 _) := fun f hf => h f (List.mem_of_mem_drop hf)
  have ha : Holds val (List.take 1 _) := fun f hf => h f (List.mem_of_mem_take hf)
  have hc : Holds val (List.take 2 _) := fun f hf => h f (List.mem_of_mem_take hf)
  simp only [List.take_succ_cons, List.take_zero, List.drop_succ_cons, List.drop_zero, Holds, List.forall_mem_cons, List.not_mem_nil, false_implies, implies_true, and_true, Fact.holds, SB.eval, SX.eval, ylike1_0, ylike1_1, ylike1_2, ylike1_3, ylike1_4, ylike1_5, ylike1_6, ylike1_7, ylike1_8, ylike1_9, ylike1_10, ylike1_11, ylike1_12, ylike1_13, ylike1_14, ylike1_15, ylike1_16, ylike1_17, ylike1_18, ylike1_19, ylike1_20, ylike1_21, ylike1_22, ylike1_23, ylike1_24, ylike1_25, ylike1_26, ylike1_27, ylike1_28, wrapU, wrapI, fdivP, tmodP, beq_iff_eq, beq_eq_false_iff_ne, decide_eq_true_eq, decide_eq_false_iff_not, ne_eq] at h ha hb hc
  simp only [Int.reducePow] at h ha hb hc
  first | (clear h hc; omega) | (clear h; omega) | omega

theorem like1_89 (val : Nat → Int) (h : Holds val [.at ylike1_25 false, .at ylike1_26 true, .at ylike1_27 true, .at ylike1_12 true, .at ylike1_13 true, .at ylike1_9 true, .at ylike1_20 false, .is ylike1_2 1, .ge (.a 0) (-9223372036854775808), .le (.a 0) 9223372036854775807]) : LikeQ val := by
  exfalso
  have hb : Holds val (List.drop 7 _) := fun f hf => h f (List.mem_of_mem_drop hf)
  have ha : Holds val (List.take 1 _) := fun f hf => h f (List.mem_of_mem_take hf)
  have hc : Holds val (List.take 2 _) := fun f hf => h f (List.mem_of_mem_take hf)
  simp only [List.take_succ_cons, List.take_zero, List.drop_succ_cons, List.drop_zero, Holds, List.forall_mem_cons, List.not_mem_nil, false_implies, implies_true, and_true, Fact.holds, SB.eval, SX.eval, ylike1_0, ylike1_1, ylike1_2, ylike1_3, ylike1_4, ylike1_5, ylike1_6, ylike1_7, ylike1_8, ylike1_9, ylike1_10, ylike1_11, ylike1_12, ylike1_13, ylike1_14, ylike1_15, ylike1_16, ylike1_17, ylike1_18, ylike1_19, ylike1_20, ylike1_21, ylike1_22, ylike1_23, ylike1_24, ylike1_25, ylike1_26, ylike1_27, ylike1_28, wrapU, wrapI, fdivP, tmodP, beq_iff_eq, beq_eq_false_iff_ne, decide_eq_true_eq, decide_eq_false_iff_not, ne_eq] at h ha hb hc
  simp only [Int.reducePow] at h ha hb hc
  first | (clear h hc; omega) | (clear h; omega) | omega

theorem like1_90 (val : Nat → Int) (h : Holds val [.at ylike1_26 false, .at ylike1_27 true, .at ylike1_12 true, .at ylike1_13 true, .at ylike1_9 true, .at ylike1_20 false, .is ylike1_2 1, .ge (.a 0) (-9223372036854775808), .le (.a 0) 9223372036854775807]) : LikeQ val := by
  exfalso
  have hb : Holds val (List.drop 6 _) := fun f hf => h f (List.mem_of_mem_drop hf)
  have ha : Holds val (List.take 1 _) := fun f hf => h f (List.mem_of_mem_take hf)
  have hc : Holds val (List.take 2 _) := fun f hf => h f (List.mem_of_mem_take hf)
  simp only [List.take_succ_cons, List.take_zero, List.drop_succ_cons, List.drop_zero, Holds, List.forall_mem_cons, List.not_mem_nil, false_implies, implies_true, and_true, Fact.holds, SB.eval, SX.eval, ylike1_0, ylike1_1, ylike1_2, ylike1_3, ylike1_4, ylike1_5, ylike1_6, ylike1_7, ylike1_8, ylike1_9, ylike1_10, ylike1_11, ylike1_12, ylike1_13, ylike1_14, ylike1_15, ylike1_16, ylike1_17, ylike1_18, ylike1_19, ylike1_20, ylike1_21, ylike1_22, ylike1_23, ylike1_24, ylike1_25, ylike1_26, ylike1_27, ylike1_28, wrapU, wrapI, fdivP, tmodP, beq_iff_eq, beq_eq_false_iff_ne, decide_eq_true_eq, decide_eq_false_iff_not, ne_eq] at h ha hb hc
  simp only [Int.reducePow] at h ha hb hc
  first | (clear h hc; omega) | (clear h; omega) | omega

theorem like1_91 (val : Nat → Int) (h : Holds val [.is ylike1_23 0, .is ylike1_24 0, .le (.wrap .i64 ylike1_3) 65535, .ge (.wrap .i64 ylike1_3) 0, .le (.shr ylike1_4 48) 32767, .ge (.shr ylike1_4 48) (-32768), .at ylike1_19 true, .at ylike1_25 true, .at ylike1_26 true, .at ylike1_28 true, .at ylike1_27 false, .at ylike1_12 true, .at ylike1_13 true, .at ylike1_9 true, .at ylike1_20 false, .is ylike1_2 1, .ge (.a 0) (-9223372036854775808), .le (.a 0) 9223372036854775807]) : LikeQ val :=
  leafK h (by kernel_rfl)

theorem like1_92 (val : Nat → Int) (h : Holds val [.ne ylike1_23 0, .is ylike1_24 0, .le (.wrap .i64 ylike1_3) 65535, .ge (.wrap .i64 ylike1_3) 0, .le (.shr ylike1_4 48) 32767, .ge (.shr ylike1_4 48) (-32768), .at ylike1_19 true, .at ylike1_25 true, .at ylike1_26 true, .at ylike1_28 true, .at ylike1_27 false, .at ylike1_12 true, .at ylike1_13 true, .at ylike1_9 true, .at ylike1_20 false, .is ylike1_2 1, .ge (.a 0) (-9223372036854775808), .le (.a 0) 9223372036854775807]) : LikeQ val := by
  exfalso
  have hb : Holds val (List.drop 15 _) := fun f hf => h f (List.mem_of_mem_drop hf)
  have ha : Holds val (List.take 1 _) := fun f hf => h f (List.mem_of_mem_take hf)
  have hc : Holds val (List.take 2 _) := fun f hf => h f (List.mem_of_mem_take hf)
  simp only [List.take_succ_cons, List.take_zero, List.drop_succ_cons, List.drop_zero, Holds, List.forall_mem_cons, List.not_mem_nil, false_implies, implies_true, and_true, Fact.holds, SB.eval, SX.eval, ylike1_0, ylike1_1, ylike1_2, ylike1_3, ylike1_4, ylike1_5, ylike1_6, ylike1_7, ylike1_8, ylike1_9, ylike1_10, ylike1_11, ylike1_12, ylike1_13, ylike1_14, ylike1_15, ylike1_16, ylike1_17, ylike1_18, ylike1_19, ylike1_20, ylike1_21, ylike1_22, ylike1_23, ylike1_24, ylike1_25, ylike1_26, ylike1_27, ylike1_28, wrapU, wrapI, fdivP, tmodP, beq_iff_eq, beq_eq_false_iff_ne, decide_eq_true_eq, decide_eq_false_iff_not, ne_eq] at h ha hb hc
  simp only [Int.reducePow] at h ha hb hc
  first | (clear h hc; omega) | (clear h; omega) | omega

theorem like1_93 (val : Nat → Int) (h : Holds val [.ne ylike1_24 0, .le (.wrap .i64 ylike1_3) 65535, .ge (.wrap .i64 ylike1_3) 0, .le (.shr ylike1_4 48) 32767, .ge (.shr ylike1_4 48) (-32768), .at ylike1_19 true, .at ylike1_25 true, .at ylike1_26 true, .at ylike1_28 true, .at ylike1_27 false, .at ylike1_12 true, .at ylike1_13 true, .at ylike1_9 true, .at ylike1_20 false, .is ylike1_2 1, .ge (.a 0) (-9223372036854775808), .le (.a 0) 9223372036854775807]) : LikeQ val := by
  exfalso
  have hb : Holds val (List.drop 14 _) := fun f hf => h f (List.mem_of_mem_drop hf)
  have ha : Holds val (List.take 1 _) := fun f hf => h f (List.mem_of_mem_take hf)
  have hc : Holds val (List.take 2 _) := fun f hf => h f (List.mem_of_mem_take hf)
  simp only [List.take_succ_cons, List.take_zero, List.drop_succ_cons, List.drop_zero, Holds, List.forall_mem_cons, List.not_mem_nil, false_implies, implies_true, and_true, Fact.holds, SB.eval, SX.eval, ylike1_0, ylike1_1, ylike1_2, ylike1_3, ylike1_4, ylike1_5, ylike1_6, ylike1_7, ylike1_8, ylike1_9, ylike1_10, ylike1_11, ylike1_12, ylike1_13, ylike1_14, ylike1_15, ylike1_16, ylike1_17, ylike1_18, ylike1_19, ylike1_20, ylike1_21, ylike1_22, ylike1_23, ylike1_24, ylike1_25, ylike1_26, ylike1_27, ylike1_28, wrapU, wrapI, fdivP, tmodP, beq_iff_eq, beq_eq_false_iff_ne, decide_eq_true_eq, decide_eq_false_iff_not, ne_eq] at h ha hb hc
  simp only [Int.reducePow] at h ha hb hc
  first | (clear h hc; omega) | (clear h; omega) | omega

theorem like1_94 (val : Nat → Int) (h : Holds val [.ge (.wrap .i64 ylike1_3) 65536, .ge (.wrap .i64 ylike1_3) 0, .le (.shr ylike1_4 48) 32767, .ge (.shr ylike1_4 48) (-32768), .at ylike1_19 true, .at ylike1_25 true, .at ylike1_26 true, .at ylike1_28 true, .at ylike1_27 false, .at ylike1_12 true, .at ylike1_13 true, .at ylike1_9 true, .at ylike1_20 false, .is ylike1_2 1, .ge (.a 0) (-9223372036854775808), .le (.a 0) 9223372036854775807]) : LikeQ val := by
  exfalso
  have hb : Holds val (List.drop 13 _) := fun f hf => h f (List.mem_of_mem_drop hf)
  have ha : Holds val (List.take 1 _) := fun f hf => h f (List.mem_of_mem_take hf)
  have hc : Holds val (List.take 2 _) := fun f hf => h f (List.mem_of_mem_take hf)
  simp only [List.take_succ_cons, List.take_zero, List.drop_succ_cons, List.drop_zero, Holds, List.forall_mem_cons, List.not_mem_nil, false_implies, implies_true, and_true, Fact.holds, SB.eval, SX.eval, ylike1_0, ylike1_1, ylike1_2, ylike1_3, ylike1_4, ylike1_5, ylike1_6, ylike1_7, ylike1_8, ylike1_9, ylike1_10, ylike1_11, ylike1_12, ylike1_13, ylike1_14, ylike1_15, ylike1_16, ylike1_17, ylike1_18, ylike1_19, ylike1_20, ylike1_21, ylike1_22, ylike1_23, ylike1_24, ylike1_25, ylike1_26, ylike1_27, ylike1_28, wrapU, wrapI, fdivP, tmodP, beq_iff_eq, beq_eq_false_iff_ne, decide_eq_true_eq, decide_eq_false_iff_not, ne_eq] at h ha hb hc
  simp only [Int.reducePow] at h ha hb hc
  first | (clear h hc; omega) | (clear h; omega) | omega

theorem like1_95 (val : Nat → Int) (h : Holds val [.le (.wrap .i64 ylike1_3) (-1), .le (.shr ylike1_4 48) 32767, .ge (.shr ylike1_4 48) (-32768), .at ylike1_19 true, .at ylike1_25 true, .at ylike1_26 true, .at ylike1_28 true, .at ylike1_27 false, .at ylike1_12 true, .at ylike1_13 true, .at ylike1_9 true, .at ylike1_20 false, .is ylike1_2 1, .ge (.a 0) (-9223372036854775808), .le (.a 0) 9223372036854775807]) : LikeQ val := by
  exfalso
  have hb : Holds val (List.drop 12 _) := fun f hf => h f (List.mem_of_mem_drop hf)
  have ha : Holds val (List.take 1 _) := fun f hf => h f (List.mem_of_mem_take hf)
  have hc : Holds val (List.take 2 _) := fun f hf => h f (List.mem_of_mem_take hf)
  simp only [List.take_succ_cons, List.take_zero, List.drop_succ_cons, List.drop_zero, Holds, List.forall_mem_cons, List.not_mem_nil, false_implies, implies_true, and_true, Fact.holds, SB.eval, SX.eval, ylike1_0, ylike1_1, ylike1_2, ylike1_3, ylike1_4, ylike1_5, ylike1_6, ylike1_7, ylike1_8, ylike1_9, ylike1_10, ylike1_11, ylike1_12, ylike1_13, ylike1_14, ylike1_15, ylike1_16, ylike1_17, ylike1_18, ylike1_19, ylike1_20, ylike1_21, ylike1_22, ylike1_23, ylike1_24, ylike1_25, ylike1_26, ylike1_27, ylike1_28, wrapU, wrapI, fdivP, tmodP, beq_iff_eq, beq_eq_false_iff_ne, decide_eq_true_eq, decide_eq_false_iff_not, ne_eq] at h ha hb hc
  simp only [Int.reducePow] at h ha hb hc
  first | (clear h hc; omega) | (clear h; omega) | omega

theorem like1_96 (val : Nat → Int) (h : Holds val [.ge (.shr ylike1_4 48) 32768, .ge (.shr ylike1_4 48) (-32768), .at ylike1_19 true, .at ylike1_25 true, .at ylike1_26 true, .at ylike1_28 true, .at ylike1_27 false, .at ylike1_12 true, .at ylike1_13 true, .at ylike1_9 true, .at ylike1_20 false, .is ylike1_2 1, .ge (.a 0) (-9223372036854775808), .le (.a 0) 9223372036854775807]) : LikeQ val := by
  exfalso
  have hb : Holds val (List.drop 11 _) := fun f hf => h f (List.mem_of_mem_drop hf)
  have ha : Holds val (List.take 1 _) := fun f hf => h f (List.mem_of_mem_take hf)
  have hc : Holds val (List.take 2 _) := fun f hf => h f (List.mem_of_mem_take hf)
  simp only [List.take_succ_cons, List.take_zero, List.drop_succ_cons, List.drop_zero, Holds, List.forall_mem_cons, List.not_mem_nil, false_implies, implies_true, and_true, Fact.holds, SB.eval, SX.eval, ylike1_0, ylike1_1, ylike1_2, ylike1_3, ylike1_4, ylike1_5, ylike1_6, ylike1_7, ylike1_8, ylike1_9, ylike1_10, ylike1_11, ylike1_12, ylike1_13, ylike1_14, ylike1_15, ylike1_16, ylike1_17, ylike1_18, ylike1_19, ylike1_20, ylike1_21, ylike1_22, ylike1_23, ylike1_24, ylike1_25, ylike1_26, ylike1_27, ylike1_28, wrapU, wrapI, fdivP, tmodP, beq_iff_eq, beq_eq_false_iff_ne, decide_eq_true_eq, decide_eq_false_iff_not, ne_eq] at h ha hb hc
  simp only [Int.reducePow] at h ha hb hc
  first | (clear h hc; omega) | (clear h; omega) | omega

theorem like1_97 (val : Nat → Int) (h : Holds val [.le (.shr ylike1_4 48) (-32769), .at ylike1_19 true, .at ylike1_25 true, .at ylike1_26 true, .at ylike1_28 true, .at ylike1_27 false, .at ylike1_12 true, .at ylike1_13 true, .at ylike1_9 true, .at ylike1_20 false, .is ylike1_2 1, .ge (.a 0) (-9223372036854775808), .le (.a 0) 9223372036854775807]) : LikeQ val := by
  exfalso
  have hb : Holds val (List.drop 10 _) := fun f hf => h f (List.mem_of_mem_drop hf)
  have ha : Holds val (List.take 1 _) := fun f hf => h f (List.mem_of_mem_take hf)
  have hc : Holds val (List.take 2 _) := fun f hf => h f (List.mem_of_mem_take hf)
  simp only [List.take_succ_cons, List.take_zero, List.drop_succ_cons, List.drop_zero, Holds, List.forall_mem_cons, List.not_mem_nil, false_implies, implies_true, and_true, Fact.holds, SB.eval, SX.eval, ylike1_0, ylike1_1, ylike1_2, ylike1_3, ylike1_4, ylike1_5, ylike1_6, ylike1_7, ylike1_8, ylike1_9, ylike1_10, ylike1_11, ylike1_12, ylike1_13, ylike1_14, ylike1_15, ylike1_16, ylike1_17, ylike1_18, ylike1_19, ylike1_20, ylike1_21, ylike1_22, ylike1_23, ylike1_24, ylike1_25, ylike1_26, ylike1_27, ylike1_28, wrapU, wrapI, fdivP, tmodP, beq_iff_eq, beq_eq_false_iff_ne, decide_eq_true_eq, decide_eq_false_iff_not, ne_eq] at h ha hb hc
  simp only [Int.reducePow] at h ha hb hc
  first | (clear h hc; omega) | (clear h; omega) | omega

theorem like1_98 (val : Nat → Int) (h : Holds val [.at ylike1_19 false, .at ylike1_25 true, .at ylike1_26 true, .at ylike1_28 true, .at ylike1_27 false, .at ylike1_12 true, .at ylike1_13 true, .at ylike1_9 true, .at ylike1_20 false, .is ylike1_2 1, .ge (.a 0) (-9223372036854775808), .le (.a 0) 9223372036854775807]) : LikeQ val := by
  exfalso
  have hb : Holds val (List.drop 9 _) := fun f hf => h f (List.mem_of_mem_drop hf)
  have ha : Holds val (List.take 1 _) := fun f hf => h f (List.mem_of_mem_take hf)
  have hc : Holds val (List.take 2 _) := fun f hf => h f (List.mem_of_mem_take hf)
  simp only [List.take_succ_cons, List.take_zero, List.drop_succ_cons, List.drop_zero, Holds, List.forall_mem_cons, List.not_mem_nil, false_implies, implies_true, and_true, Fact.holds, SB.eval, SX.eval, ylike1_0, ylike1_1, ylike1_2, ylike1_3, ylike1_4, ylike1_5, ylike1_6, ylike1_7, ylike1_8, ylike1_9, ylike1_10, ylike1_11, ylike1_12, ylike1_13, ylike1_14, ylike1_15, ylike1_16, ylike1_17, ylike1_18, ylike1_19, ylike1_20, ylike1_21, ylike1_22, ylike1_23, ylike1_24, ylike1_25, ylike1_26, ylike1_27, ylike1_28, wrapU, wrapI, fdivP, tmodP, beq_iff_eq, beq_eq_false_iff_ne, decide_eq_true_eq, decide_eq_false_iff_not, ne_eq] at h ha hb hc
  simp only [Int.reducePow] at h ha hb hc
  first | (clear h hc; omega) | (clear h; omega) | omega

theorem like1_99 (val : Nat → Int) (h : Holds val [.at ylike1_25 false, .at ylike1_26 true, .at ylike1_28 true, .at ylike1_27 false, .at ylike1_12 true, .at ylike1_13 true, .at ylike1_9 true, .at ylike1_20 false, .is ylike1_2 1, .ge (.a 0) (-9223372036854775808), .le (.a 0) 9223372036854775807]) : LikeQ val := by
  exfalso
  have hb : Holds val (List.drop 8 _) := fun f hf => h f (List.mem_of_mem_drop hf)
  have ha : Holds val (List.take 1 _) := fun f hf => h f (List.mem_of_mem_take hf)
  have hc : Holds val (List.take 2 _) := fun f hf => h f (List.mem_of_mem_take hf)
  simp only [List.take_succ_cons, List.take_zero, List.drop_succ_cons, List.drop_zero, Holds, List.forall_mem_cons, List.not_mem_nil, false_implies, implies_true, and_true, Fact.holds, SB.eval, SX.eval, ylike1_0, ylike1_1, ylike1_2, ylike1_3, ylike1_4, ylike1_5, ylike1_6, ylike1_7, ylike1_8, ylike1_9, ylike1_10, ylike1_11, ylike1_12, ylike1_13, ylike1_14, ylike1_15, ylike1_16, ylike1_17, ylike1_18, ylike1_19, ylike1_20, ylike1_21, ylike1_22, ylike1_23, ylike1_24, ylike1_25, ylike1_26, ylike1_27, ylike1_28, wrapU, wrapI, fdivP, tmodP, beq_iff_eq, beq_eq_false_iff_ne, decide_eq_true_eq, decide_eq_false_iff_not, ne_eq] at h ha hb hc
  simp only [Int.reducePow] at h ha hb hc
  first | (clear h hc; omega) | (clear h; omega) | omega

theorem like1_100 (val : Nat → Int) (h : Holds val [.at ylike1_26 false, .at ylike1_28 true, .at ylike1_27 false, .at ylike1_12 true, .at ylike1_13 true, .at ylike1_9 true, .at ylike1_20 false, .is ylike1_2 1, .ge (.a 0) (-9223372036854775808), .le (.a 0) 9223372036854775807]) : LikeQ val := by
  exfalso
  have hb : Holds val (List.drop 7 _) := fun f hf => h f (List.mem_of_mem_drop hf)
  have ha : Holds val (List.take 1 _) := fun f hf => h f (List.mem_of_mem_take hf)
  have hc : Holds val (List.take 2 _) := fun f hf => h f (List.mem_of_mem_take hf)
  simp only [List.take_succ_cons, List.take_zero, List.drop_succ_cons, List.drop_zero, Holds, List.forall_mem_cons, List.not_mem_nil, false_implies, implies_true, and_true, Fact.holds, SB.eval, SX.eval, ylike1_0, ylike1_1, ylike1_2, ylike1_3, ylike1_4, ylike1_5, ylike1_6, ylike1_7, ylike1_8, ylike1_9, ylike1_10, ylike1_11, ylike1_12, ylike1_13, ylike1_14, ylike1_15, ylike1_16, ylike1_17, ylike1_18, ylike1_19, ylike1_20, ylike1_21, ylike1_22, ylike1_23, ylike1_24, ylike1_25, ylike1_26, ylike1_27, ylike1_28, wrapU, wrapI, fdivP, tmodP, beq_iff_eq, beq_eq_false_iff_ne, decide_eq_true_eq, decide_eq_false_iff_not, ne_eq] at h ha hb hc
  simp only [Int.reducePow] at h ha hb hc
  first | (clear h hc; omega) | (clear h; omega) | omega

theorem like1_101 (val : Nat → Int) (h : Holds val [.is (.a 0) 0, .is (.wrap .i64 ylike1_3) 0, .at ylike1_28 false, .at ylike1_27 false, .at ylike1_12 true, .at ylike1_13 true, .at ylike1_9 true, .at ylike1_20 false, .is ylike1_2 1, .ge (.a 0) (-9223372036854775808), .le (.a 0) 9223372036854775807]) : LikeQ val :=
  leafK h (by kernel_rfl)

theorem like1_102 (val : Nat → Int) (h : Holds val [.le (.a 0) (-32769), .is (.shr ylike1_4 48) 0, .is ylike1_7 0, .ne (.a 0) 0, .is (.wrap .i64 ylike1_3) 0, .at ylike1_28 false, .at ylike1_27 false, .at ylike1_12 true, .at ylike1_13 true, .at ylike1_9 true, .at ylike1_20 false, .is ylike1_2 1, .ge (.a 0) (-9223372036854775808), .le (.a 0) 9223372036854775807]) : LikeQ val :=
  leafK h (by kernel_rfl)

theorem like1_103 (val : Nat → Int) (h : Holds val [.ge (.a 0) 65536, .ge (.a 0) (-32768), .is (.shr ylike1_4 48) 0, .is ylike1_7 0, .ne (.a 0) 0, .is (.wrap .i64 ylike1_3) 0, .at ylike1_28 false, .at ylike1_27 false, .at ylike1_12 true, .at ylike1_13 true, .at ylike1_9 true, .at ylike1_20 false, .is ylike1_2 1, .ge (.a 0) (-9223372036854775808), .le (.a 0) 9223372036854775807]) : LikeQ val :=
  leafK h (by kernel_rfl)

theorem like1_104 (val : Nat → Int) (h : Holds val [.le (.a 0) 65535, .ge (.a 0) (-32768), .is (.shr ylike1_4 48) 0, .is ylike1_7 0, .ne (.a 0) 0, .is (.wrap .i64 ylike1_3) 0, .at ylike1_28 false, .at ylike1_27 false, .at ylike1_12 true, .at ylike1_13 true, .at ylike1_9 true, .at ylike1_20 false, .is ylike1_2 1, .ge (.a 0) (-9223372036854775808), .le (.a 0) 9223372036854775807]) : LikeQ val := by
  exfalso
  have hb : Holds val (List.drop 12 _) := fun f hf => h f (List.mem_of_mem_drop hf)
  have ha : Holds val (List.take 1 _) := fun f hf => h f (List.mem_of_mem_take hf)
  have hc : Holds val (List.take 2 _) := fun f hf => h f (List.mem_of_mem_take hf)
  simp only [List.take_succ_cons, List.take_zero, List.drop_succ_cons, List.drop_zero, Holds, List.forall_mem_cons, List.not_mem_nil, false_implies, implies_true, and_true, Fact.holds, SB.eval, SX.eval, ylike1_0, ylike1_1, ylike1_2, ylike1_3, ylike1_4, ylike1_5, ylike1_6, ylike1_7, ylike1_8, ylike1_9, ylike1_10, ylike1_11, ylike1_12, ylike1_13, ylike1_14, ylike1_15, ylike1_16, ylike1_17, ylike1_18, ylike1_19, ylike1_20, ylike1_21, ylike1_22, ylike1_23, ylike1_24, ylike1_25, ylike1_26, ylike1_27, ylike1_28, wrapU, wrapI, fdivP, tmodP, beq_iff_eq, beq_eq_false_iff_ne, decide_eq_true_eq, decide_eq_false_iff_not, ne_eq] at h ha hb hc
  simp only [Int.reducePow] at h ha hb hc
  first | (clear h hc; omega) | (clear h; omega) | omega

theorem like1_105 (val : Nat → Int) (h : Holds val [.at ylike1_14 true, .ne (.shr ylike1_4 48) 0, .is ylike1_7 0, .ne (.a 0) 0, .is (.wrap .i64 ylike1_3) 0, .at ylike1_28 false, .at ylike1_27 false, .at ylike1_12 true, .at ylike1_13 true, .at ylike1_9 true, .at ylike1_20 false, .is ylike1_2 1, .ge (.a 0) (-9223372036854775808), .le (.a 0) 9223372036854775807]) : LikeQ val := by
  exfalso
  have hb : Holds val (List.drop 11 _) := fun f hf => h f (List.mem_of_mem_drop hf)
  have ha : Holds val (List.take 1 _) := fun f hf => h f (List.mem_of_mem_take hf)
  have hc : Holds val (List.take 2 _) := fun f hf => h f (List.mem_of_mem_take hf)
  simp only [List.take_succ_cons, List.take_zero, List.drop_succ_cons, List.drop_zero, Holds, List.forall_mem_cons, List.not_mem_nil, false_implies, implies_true, and_true, Fact.holds, SB.eval, SX.eval, ylike1_0, ylike1_1, ylike1_2, ylike1_3, ylike1_4, ylike1_5, ylike1_6, ylike1_7, ylike1_8, ylike1_9, ylike1_10, ylike1_11, ylike1_12, ylike1_13, ylike1_14, ylike1_15, ylike1_16, ylike1_17, ylike1_18, ylike1_19, ylike1_20, ylike1_21, ylike1_22, ylike1_23, ylike1_24, ylike1_25, ylike1_26, ylike1_27, ylike1_28, wrapU, wrapI, fdivP, tmodP, beq_iff_eq, beq_eq_false_iff_ne, decide_eq_true_eq, decide_eq_false_iff_not, ne_eq] at h ha hb hc
  simp only [Int.reducePow] at h ha hb hc
  first | (clear h hc; omega) | (clear h; omega) | omega

theorem like1_106 (val : Nat → Int) (h : Holds val [.at ylike1_14 false, .ne (.shr ylike1_4 48) 0, .is ylike1_7 0, .ne (.a 0) 0, .is (.wrap .i64 ylike1_3) 0, .at ylike1_28 false, .at ylike1_27 false, .at ylike1_12 true, .at ylike1_13 true, .at ylike1_9 true, .at ylike1_20 false, .is ylike1_2 1, .ge (.a 0) (-9223372036854775808), .le (.a 0) 9223372036854775807]) : LikeQ val := by
  exfalso
  have hb : Holds val (List.drop 11 _) := fun f hf => h f (List.mem_of_mem_drop hf)
  have ha : Holds val (List.take 1 _) := fun f hf => h f (List.mem_of_mem_take hf)
  have hc : Holds val (List.take 2 _) := fun f hf => h f (List.mem_of_mem_take hf)
  simp only [List.take_succ_cons, List.take_zero, List.drop_succ_cons, List.drop_zero, Holds, List.forall_mem_cons, List.not_mem_nil, false_implies, implies_true, and_true, Fact.holds, SB.eval, SX.eval, ylike1_0, ylike1_1, ylike1_2, ylike1_3, ylike1_4, ylike1_5, ylike1_6, ylike1_7, ylike1_8, ylike1_9, ylike1_10, ylike1_11, ylike1_12, ylike1_13, ylike1_14, ylike1_15, ylike1_16, ylike1_17, ylike1_18, ylike1_19, ylike1_20, ylike1_21, ylike1_22, ylike1_23, ylike1_24, ylike1_25, ylike1_26, ylike1_27, ylike1_28, wrapU, wrapI, fdivP, tmodP, beq_iff_eq, beq_eq_false_iff_ne, decide_eq_true_eq, decide_eq_false_iff_not, ne_eq] at h ha hb hc
  simp only [Int.reducePow] at h ha hb hc
  first | (clear h hc; omega) | (clear h; omega) | omega

theorem like1_107 (val : Nat → Int) (h : Holds val [.ne ylike1_7 0, .ne (.a 0) 0, .is (.wrap .i64 ylike1_3) 0, .at ylike1_28 false, .at ylike1_27 false, .at ylike1_12 true, .at ylike1_13 true, .at ylike1_9 true, .at ylike1_20 false, .is ylike1_2 1, .ge (.a 0) (-9223372036854775808), .le (.a 0) 9223372036854775807]) : LikeQ val := by
  exfalso
  have hb : Holds val (List.drop 9 _) := fun f hf => h f (List.mem_of_mem_drop hf)
  have ha : Holds val (List.take 1 _) := fun f hf => h f (List.mem_of_mem_take hf)
  have hc : Holds val (List.take 2 _) := fun f hf => h f (List.mem_of_mem_take hf)
  simp only [List.take_succ_cons, List.take_zero, List.drop_succ_cons, List.drop_zero, Holds, List.forall_mem_cons, List.not_mem_nil, false_implies, implies_true, and_true, Fact.holds, SB.eval, SX.eval, ylike1_0, ylike1_1, ylike1_2, ylike1_3, ylike1_4, ylike1_5, ylike1_6, ylike1_7, ylike1_8, ylike1_9, ylike1_10, ylike1_11, ylike1_12, ylike1_13, ylike1_14, ylike1_15, ylike1_16, ylike1_17, ylike1_18, ylike1_19, ylike1_20, ylike1_21, ylike1_22, ylike1_23, ylike1_24, ylike1_25, ylike1_26, ylike1_27, ylike1_28, wrapU, wrapI, fdivP, tmodP, beq_iff_eq, beq_eq_false_iff_ne, decide_eq_true_eq, decide_eq_false_iff_not, ne_eq] at h ha hb hc
  simp only [Int.reducePow] at h ha hb hc
  first | (clear h hc; omega) | (clear h; omega) | omega

theorem like1_108 (val : Nat → Int) (h : Holds val [.ne (.wrap .i64 ylike1_3) 0, .at ylike1_28 false, .at ylike1_27 false, .at ylike1_12 true, .at ylike1_13 true, .at ylike1_9 true, .at ylike1_20 false, .is ylike1_2 1, .ge (.a 0) (-9223372036854775808), .le (.a 0) 9223372036854775807]) : LikeQ val := by
  exfalso
  have hb : Holds val (List.drop 7 _) := fun f hf => h f (List.mem_of_mem_drop hf)
  have ha : Holds val (List.take 1 _) := fun f hf => h f (List.mem_of_mem_take hf)
  have hc : Holds val (List.take 2 _) := fun f hf => h f (List.mem_of_mem_take hf)
  simp only [List.take_succ_cons, List.take_zero, List.drop_succ_cons, List.drop_zero, Holds, List.forall_mem_cons, List.not_mem_nil, false_implies, implies_true, and_true, Fact.holds, SB.eval, SX.eval, ylike1_0, ylike1_1, ylike1_2, ylike1_3, ylike1_4, ylike1_5, ylike1_6, ylike1_7, ylike1_8, ylike1_9, ylike1_10, ylike1_11, ylike1_12, ylike1_13, ylike1_14, ylike1_15, ylike1_16, ylike1_17, ylike1_18, ylike1_19, ylike1_20, ylike1_21, ylike1_22, ylike1_23, ylike1_24, ylike1_25, ylike1_26, ylike1_27, ylike1_28, wrapU, wrapI, fdivP, tmodP, beq_iff_eq, beq_eq_false_iff_ne, decide_eq_true_eq, decide_eq_false_iff_not, ne_eq] at h ha hb hc
  simp only [Int.reducePow] at h ha hb hc
  first | (clear h hc; omega) | (clear h; omega) | omega

theorem like1_109 (val : Nat → Int) (h : Holds val [.at ylike1_12 false, .at ylike1_13 true, .at ylike1_9 true, .at ylike1_20 false, .is ylike1_2 1, .ge (.a 0) (-9223372036854775808), .le (.a 0) 9223372036854775807]) : LikeQ val := by
  exfalso
  have hb : Holds val (List.drop 4 _) := fun f hf => h f (List.mem_of_mem_drop hf)
  have ha : Holds val (List.take 1 _) := fun f hf => h f (List.mem_of_mem_take hf)
  have hc : Holds val (List.take 2 _) := fun f hf => h f (List.mem_of_mem_take hf)
  simp only [List.take_succ_cons, List.take_zero, List.drop_succ_cons, List.drop_zero, Holds, List.forall_mem_cons, List.not_mem_nil, false_implies, implies_true, and_true, Fact.holds, SB.eval, SX.eval, ylike1_0, ylike1_1, ylike1_2, ylike1_3, ylike1_4, ylike1_5, ylike1_6, ylike1_7, ylike1_8, ylike1_9, ylike1_10, ylike1_11, ylike1_12, ylike1_13, ylike1_14, ylike1_15, ylike1_16, ylike1_17, ylike1_18, ylike1_19, ylike1_20, ylike1_21, ylike1_22, ylike1_23, ylike1_24, ylike1_25, ylike1_26, ylike1_27, ylike1_28, wrapU, wrapI, fdivP, tmodP, beq_iff_eq, beq_eq_false_iff_ne, decide_eq_true_eq, decide_eq_false_iff_not, ne_eq] at h ha hb hc
  simp only [Int.reducePow] at h ha hb hc
  first | (clear h hc; omega) | (clear h; omega) | omega

theorem like1_110 (val : Nat → Int) (h : Holds val [.is ylike1_23 0, .is ylike1_24 0, .le (.wrap .i64 ylike1_3) 65535, .ge (.wrap .i64 ylike1_3) 0, .le (.shr ylike1_4 48) 32767, .ge (.shr ylike1_4 48) (-32768), .at ylike1_19 true, .at ylike1_25 true, .at ylike1_26 true, .at ylike1_27 true, .at ylike1_12 true, .at ylike1_14 true, .at ylike1_13 false, .at ylike1_9 true, .at ylike1_20 false, .is ylike1_2 1, .ge (.a 0) (-9223372036854775808), .le (.a 0) 9223372036854775807]) : LikeQ val :=
  leafK h (by kernel_rfl)

theorem like1_111 (val : Nat → Int) (h : Holds val [.ne ylike1_23 0, .is ylike1_24 0, .le (.wrap .i64 ylike1_3) 65535, .ge (.wrap .i64 ylike1_3) 0, .le (.shr ylike1_4 48) 32767, .ge (.shr ylike1_4 48) (-32768), .at ylike1_19 true, .at ylike1_25 true, .at ylike1_26 true, .at ylike1_27 true, .at ylike1_12 true, .at ylike1_14 true, .at ylike1_13 false, .at ylike1_9 true, .at ylike1_20 false, .is ylike1_2 1, .ge (.a 0) (-9223372036854775808), .le (.a 0) 9223372036854775807]) : LikeQ val := by
  exfalso
  have hb : Holds val (List.drop 15 _) := fun f hf => h f (List.mem_of_mem_drop hf)
  have ha : Holds val (List.take 1 _) := fun f hf => h f (List.mem_of_mem_take hf)
  have hc : Holds val (List.take 2 _) := fun f hf => h f (List.mem_of_mem_take hf)
  simp only [List.take_succ_cons, List.take_zero, List.drop_succ_cons, List.drop_zero, Holds, List.forall_mem_cons, List.not_mem_nil, false_implies, implies_true, and_true, Fact.holds, SB.eval, SX.eval, ylike1_0, ylike1_1, ylike1_2, ylike1_3, ylike1_4, ylike1_5, ylike1_6, ylike1_7, ylike1_8, ylike1_9, ylike1_10, ylike1_11, ylike1_12, ylike1_13, ylike1_14, ylike1_15, ylike1_16, ylike1_17, ylike1_18, ylike1_19, ylike1_20, ylike1_21, ylike1_22, ylike1_23, ylike1_24, ylike1_25, ylike1_26, ylike1_27, ylike1_28, wrapU, wrapI, fdivP, tmodP, beq_iff_eq, beq_eq_false_iff_ne, decide_eq_true_eq, decide_eq_false_iff_not, ne_eq] at h ha hb hc
  simp only [Int.reducePow] at h ha hb hc
  first | (clear h hc; omega) | (clear h; omega) | omega

theorem like1_112 (val : Nat → Int) (h : Holds val [.ne ylike1_24 0, .le (.wrap .i64 ylike1_3) 65535, .ge (.wrap .i64 ylike1_3) 0, .le (.shr ylike1_4 48) 32767, .ge (.shr ylike1_4 48) (-32768), .at ylike1_19 true, .at ylike1_25 true, .at ylike1_26 true, .at ylike1_27 true, .at ylike1_12 true, .at ylike1_14 true, .at ylike1_13 false, .at ylike1_9 true, .at ylike1_20 false, .is ylike1_2 1, .ge (.a 0) (-9223372036854775808), .le (.a 0) 9223372036854775807]) : LikeQ val := by
  exfalso
  have hb : Holds val (List.drop 14 _) := fun f hf => h f (List.mem_of_mem_drop hf)
  have ha : Holds val (List.take 1 _) := fun f hf => h f (List.mem_of_mem_take hf)
  have hc : Holds val (List.take 2 _) := fun f hf => h f (List.mem_of_mem_take hf)
  simp only [List.take_succ_cons, List.take_zero, List.drop_succ_cons, List.drop_zero, Holds, List.forall_mem_cons, List.not_mem_nil, false_implies, implies_true, and_true, Fact.holds, SB.eval, SX.eval, ylike1_0, ylike1_1, ylike1_2, ylike1_3, ylike1_4, ylike1_5, ylike1_6, ylike1_7, ylike1_8, ylike1_9, ylike1_10, ylike1_11, ylike1_12, ylike1_13, ylike1_14, ylike1_15, ylike1_16, ylike1_17, ylike1_18, ylike1_19, ylike1_20, ylike1_21, ylike1_22, ylike1_23, ylike1_24, ylike1_25, ylike1_26, ylike1_27, ylike1_28, wrapU, wrapI, fdivP, tmodP, beq_iff_eq, beq_eq_false_iff_ne, decide_eq_true_eq, decide_eq_false_iff_not, ne_eq] at h ha hb hc
  simp only [Int.reducePow] at h ha hb hc
  first | (clear h hc; omega) | (clear h; omega) | omega

theorem like1_113 (val : Nat → Int) (h : Holds val [.ge (.wrap .i64 ylike1_3) 65536, .ge (.wrap .i64 ylike1_3) 0, .le (.shr ylike1_4 48) 32767, .ge (.shr ylike1_4 48) (-32768), .at ylike1_19 true, .at ylike1_25 true, .at ylike1_26 true, .at ylike1_27 true, .at ylike1_12 true, .at ylike1_14 true, .at ylike1_13 false, .at ylike1_9 true, .at ylike1_20 false, .is ylike1_2 1, .ge (.a 0) (-9223372036854775808), .le (.a 0) 9223372036854775807]) : LikeQ val := by
  exfalso
  have hb : Holds val (List.drop 13 _) := fun f hf => h f (List.mem_of_mem_drop hf)
  have ha : Holds val (List.take 1 _) := fun f hf => h f (List.mem_of_mem_take hf)
  have hc : Holds val (List.take 2 _) := fun f hf => h f (List.mem_of_mem_take hf)
  simp only [List.take_succ_cons, List.take_zero, List.drop_succ_cons, List.drop_zero, Holds, List.forall_mem_cons, List.not_mem_nil, false_implies, implies_true, and_true, Fact.holds, SB.eval, SX.eval, ylike1_0, ylike1_1, ylike1_2, ylike1_3, ylike1_4, ylike1_5, ylike1_6, ylike1_7, ylike1_8, ylike1_9, ylike1_10, ylike1_11, ylike1_12, ylike1_13, ylike1_14, ylike1_15, ylike1_16, ylike1_17, ylike1_18, ylike1_19, ylike1_20, ylike1_21, ylike1_22, ylike1_23, ylike1_24, ylike1_25, ylike1_26, ylike1_27, ylike1_28, wrapU, wrapI, fdivP, tmodP, beq_iff_eq, beq_eq_false_iff_ne, decide_eq_true_eq, decide_eq_false_iff_not, ne_eq] at h ha hb hc
  simp only [Int.reducePow] at h ha hb hc
  first | (clear h hc; omega) | (clear h; omega) | omega

theorem like1_114 (val : Nat → Int) (h : Holds val [.le (.wrap .i64 ylike1_3) (-1), .le (.shr ylike1_4 48) 32767, .ge (.shr ylike1_4 48) (-32768), .at ylike1_19 true, .at ylike1_25 true, .at ylike1_26 true, .at ylike1_27 true, .at ylike1_12 true, .at ylike1_14 true, .at ylike1_13 false, .at ylike1_9 true, .at ylike1_20 false, .is ylike1_2 1, .ge (.a 0) (-9223372036854775808), .le (.a 0) 9223372036854775807]) : LikeQ val := by
  exfalso
  have hb : Holds val (List.drop 12 _) := fun f hf => h f (List.mem_of_mem_drop hf)
  have ha : Holds val (List.take 1 _) := fun f hf => h f (List.mem_of_mem_take hf)
  have hc : Holds val (List.take 2 _) := fun f hf => h f (List.mem_of_mem_take hf)
  simp only [List.take_succ_cons, List.take_zero, List.drop_succ_cons, List.drop_zero, Holds, List.forall_mem_cons, List.not_mem_nil, false_implies, implies_true, and_true, Fact.holds, SB.eval, SX.eval, ylike1_0, ylike1_1, ylike1_2, ylike1_3, ylike1_4, ylike1_5, ylike1_6, ylike1_7, ylike1_8, ylike1_9, ylike1_10, ylike1_11, ylike1_12, ylike1_13, ylike1_14, ylike1_15, ylike1_16, ylike1_17, ylike1_18, ylike1_19, ylike1_20, ylike1_21, ylike1_22, ylike1_23, ylike1_24, ylike1_25, ylike1_26, ylike1_27, ylike1_28, wrapU, wrapI, fdivP, tmodP, beq_iff_eq, beq_eq_false_iff_ne, decide_eq_true_eq, decide_eq_false_iff_not, ne_eq] at h ha hb hc
  simp only [Int.reducePow] at h ha hb hc
  first | (clear h hc; omega) | (clear h; omega) | omega

theorem like1_115 (val : Nat → Int) (h : Holds val [.ge (.shr ylike1_4 48) 32768, .ge (.shr ylike1_4 48) (-32768), .at ylike1_19 true, .at ylike1_25 true, .at ylike1_26 true, .at ylike1_27 true, .at ylike1_12 true, .at ylike1_14 true, .at ylike1_13 false, .at ylike1_9 true, .at ylike1_20 false, .is ylike1_2 1, .ge (.a 0) (-9223372036854775808), .le (.a 0) 9223372036854775807]) : LikeQ val := by
  exfalso
  have hb : Holds val (List.drop 11 _) := fun f hf => h f (List.mem_of_mem_drop hf)
  have ha : Holds val (List.take 1 _) := fun f hf => h f (List.mem_of_mem_take hf)
  have hc : Holds val (List.take 2 _) := fun f hf => h f (List.mem_of_mem_take hf)
  simp only [List.take_succ_cons, List.take_zero, List.drop_succ_cons, List.drop_zero, Holds, List.forall_mem_cons, List.not_mem_nil, false_implies, implies_true, and_true, Fact.holds, SB.eval, SX.eval, ylike1_0, ylike1_1, ylike1_2, ylike1_3, ylike1_4, ylike1_5, ylike1_6, ylike1_7, ylike1_8, ylike1_9, ylike1_10, ylike1_11, ylike1_12, ylike1_13, ylike1_14, ylike1_15, ylike1_16, ylike1_17, ylike1_18, ylike1_19, ylike1_20, ylike1_21, ylike1_22, ylike1_23, ylike1_24, ylike1_25, ylike1_26, ylike1_27, ylike1_28, wrapU, wrapI, fdivP, tmodP, beq_iff_eq, beq_eq_false_iff_ne, decide_eq_true_eq, decide_eq_false_iff_not, ne_eq] at h ha hb hc
  simp only [Int.reducePow] at h ha hb hc
  first | (clear h hc; omega) | (clear h; omega) | omega

theorem like1_116 (val : Nat → Int) (h : Holds val [.le (.shr ylike1_4 48) (-32769), .at ylike1_19 true, .at ylike1_25 true, .at ylike1_26 true, .at ylike1_27 true, .at ylike1_12 true, .at ylike1_14 true, .at ylike1_13 false, .at ylike1_9 true, .at ylike1_20 false, .is ylike1_2 1, .ge (.a 0) (-9223372036854775808), .le (.a 0) 9223372036854775807]) : LikeQ val := by
  exfalso
  have hb : Holds val (List.drop 10 _) := fun f hf => h f (List.mem_of_mem_drop hf)
  have ha : Holds val (List.take 1 _) := fun f hf => h f (List.mem_of_mem_take hf)
  have hc : Holds val (List.take 2 _) := fun f hf => h f (List.mem_of_mem_take hf)
  simp only [List.take_succ_cons, List.take_zero, List.drop_succ_cons, List.drop_zero, Holds, List.forall_mem_cons, List.not_mem_nil, false_implies, implies_true, and_true, Fact.holds, SB.eval, SX.eval, ylike1_0, ylike1_1, ylike1_2, ylike1_3, ylike1_4, ylike1_5, ylike1_6, ylike1_7, ylike1_8, ylike1_9, ylike1_10, ylike1_11, ylike1_12, ylike1_13, ylike1_14, ylike1_15, ylike1_16, ylike1_17, ylike1_18, ylike1_19, ylike1_20, ylike1_21, ylike1_22, ylike1_23, ylike1_24, ylike1_25, ylike1_26, ylike1_27, ylike1_28, wrapU, wrapI, fdivP, tmodP, beq_iff_eq, beq_eq_false_iff_ne, decide_eq_true_eq, decide_eq_false_iff_not, ne_eq] at h ha hb hc
  simp only [Int.reducePow] at h ha hb hc
  first | (clear h hc; omega) | (clear h; omega) | omega

theorem like1_117 (val : Nat → Int) (h : Holds val [.at ylike1_19 false, .at ylike1_25 true, .at ylike1_26 true, .at ylike1_27 true, .at ylike1_12 true, .at ylike1_14 true, .at ylike1_13 false, .at ylike1_9 true, .at ylike1_20 false, .is ylike1_2 1, .ge (.a 0) (-9223372036854775808), .le (.a 0) 9223372036854775807]) : LikeQ val := by
  exfalso
  have hb : Holds val (List.drop 9 _) := fun f hf => h f (List.mem_of_mem_drop hf)
  have ha : Holds val (List.take 1 _) := fun f hf => h f (List.mem_of_mem_take hf)
  have hc : Holds val (List.take 2 _) := fun f hf => h f (List.mem_of_mem_take hf)
  simp only [List.take_succ_cons, List.take_zero, List.drop_succ_cons, List.drop_zero, Holds, List.forall_mem_cons, List.not_mem_nil, false_implies, implies_true, and_true, Fact.holds, SB.eval, SX.eval, ylike1_0, ylike1_1, ylike1_2, ylike1_3, ylike1_4, ylike1_5, ylike1_6, ylike1_7, ylike1_8, ylike1_9, ylike1_10, ylike1_11, ylike1_12, ylike1_13, ylike1_14, ylike1_15, ylike1_16, ylike1_17, ylike1_18, ylike1_19, ylike1_20, ylike1_21, ylike1_22, ylike1_23, ylike1_24, ylike1_25, ylike1_26, ylike1_27, ylike1_28, wrapU, wrapI, fdivP, tmodP, beq_iff_eq, beq_eq_false_iff_ne, decide_eq_true_eq, decide_eq_false_iff_not, ne_eq] at h ha hb hc
  simp only [Int.reducePow] at h ha hb hc
  first | (clear h hc; omega) | (clear h; omega) | omega

theorem like1_118 (val : Nat → Int) (h : Holds val [.at ylike1_25 false, .at ylike1_26 true, .at ylike1_27 true, .at ylike1_12 true, .at ylike1_14 true, .at ylike1_13 false, .at ylike1_9 true, .at ylike1_20 false, .is ylike1_2 1, .ge (.a 0) (-9223372036854775808), .le (.a 0) 9223372036854775807]) : LikeQ val := by
  exfalso
  have hb : Holds val (List.drop 8 _) := fun f hf => h f (List.mem_of_mem_drop hf)
  have ha : Holds val (List.take 1 _) := fun f hf => h f (List.mem_of_mem_take hf)
  have hc : Holds val (List.take 2 _) := fun f hf => h f (List.mem_of_mem_take hf)
  simp only [List.take_succ_cons, List.take_zero, List.drop_succ_cons, List.drop_zero, Holds, List.forall_mem_cons, List.not_mem_nil, false_implies, implies_true, and_true, Fact.holds, SB.eval, SX.eval, ylike1_0, ylike1_1, ylike1_2, ylike1_3, ylike1_4, ylike1_5, ylike1_6, ylike1_7, ylike1_8, ylike1_9, ylike1_10, ylike1_11, ylike1_12, ylike1_13, ylike1_14, ylike1_15, ylike1_16, ylike1_17, ylike1_18, ylike1_19, ylike1_20, ylike1_21, ylike1_22, ylike1_23, ylike1_24, ylike1_25, ylike1_26, ylike1_27, ylike1_28, wrapU, wrapI, fdivP, tmodP, beq_iff_eq, beq_eq_false_iff_ne, decide_eq_true_eq, decide_eq_false_iff_not, ne_eq] at h ha hb hc
  simp only [Int.reducePow] at h ha hb hc
  first | (clear h hc; omega) | (clear h; omega) | omega

theorem like1_119 (val : Nat → Int) (h : Holds val [.at ylike1_26 false, .at ylike1_27 true, .at ylike1_12 true, .at ylike1_14 true, .at ylike1_13 false, .at ylike1_9 true, .at ylike1_20 false, .is ylike1_2 1, .ge (.a 0) (-9223372036854775808), .le (.a 0) 9223372036854775807]) : LikeQ val := by
  exfalso
  have hb : Holds val (List.drop 7 _) := fun f hf => h f (List.mem_of_mem_drop hf)
  have ha : Holds val (List.take 1 _) := fun f hf => h f (List.mem_of_mem_take hf)
  have hc : Holds val (List.take 2 _) := fun f hf => h f (List.mem_of_mem_take hf)
  simp only [List.take_succ_cons, List.take_zero, List.drop_succ_cons, List.drop_zero, Holds, List.forall_mem_cons, List.not_mem_nil, false_implies, implies_true, and_true, Fact.holds, SB.eval, SX.eval, ylike1_0, ylike1_1, ylike1_2, ylike1_3, ylike1_4, ylike1_5, ylike1_6, ylike1_7, ylike1_8, ylike1_9, ylike1_10, ylike1_11, ylike1_12, ylike1_13, ylike1_14, ylike1_15, ylike1_16, ylike1_17, ylike1_18, ylike1_19, ylike1_20, ylike1_21, ylike1_22, ylike1_23, ylike1_24, ylike1_25, ylike1_26, ylike1_27, ylike1_28, wrapU, wrapI, fdivP, tmodP, beq_iff_eq, beq_eq_false_iff_ne, decide_eq_true_eq, decide_eq_false_iff_not, ne_eq] at h ha hb hc
  simp only [Int.reducePow] at h ha hb hc
  first | (clear h hc; omega) | (clear h; omega) | omega

theorem like1_120 (val : Nat → Int) (h : Holds val [.is ylike1_23 0, .is ylike1_24 0, .le (.wrap .i64 ylike1_3) 65535, .ge (.wrap .i64 ylike1_3) 0, .le (.shr ylike1_4 48) 32767, .ge (.shr ylike1_4 48) (-32768), .at ylike1_19 true, .at ylike1_25 true, .at ylike1_26 true, .at ylike1_28 true, .at ylike1_27 false, .at ylike1_12 true, .at ylike1_14 true, .at ylike1_13 false, .at ylike1_9 true, .at ylike1_20 false, .is ylike1_2 1, .ge (.a 0) (-9223372036854775808), .le (.a 0) 9223372036854775807]) : LikeQ val :=
  leafK h (by kernel_rfl)

theorem like1_121 (val : Nat → Int) (h : Holds val [.ne ylike1_23 0, .is ylike1_24 0, .le (.wrap .i64 ylike1_3) 65535, .ge (.wrap .i64 ylike1_3) 0, .le (.shr ylike1_4 48) 32767, .ge (.shr ylike1_4 48) (-32768), .at ylike1_19 true, .at ylike1_25 true, .at ylike1_26 true, .at ylike1_28 true, .at ylike1_27 false, .at ylike1_12 true, .at ylike1_14 true, .at ylike1_13 false, .at ylike1_9 true, .at ylike1_20 false, .is ylike1_2 1, .ge (.a 0) (-9223372036854775808), .le (.a 0) 9223372036854775807]) : LikeQ val := by
  exfalso
  have hb : Holds val (List.drop 16 _) := fun f hf => h f (List.mem_of_mem_drop hf)
  have ha : Holds val (List.take 1 _) := fun f hf => h f (List.mem_of_mem_take hf)
  have hc : Holds val (List.take 2 _) := fun f hf => h f (List.mem_of_mem_take hf)
  simp only [List.take_succ_cons, List.take_zero, List.drop_succ_cons, List.drop_zero, Holds, List.forall_mem_cons, List.not_mem_nil, false_implies, implies_true, and_true, Fact.holds, SB.eval, SX.eval, ylike1_0, ylike1_1, ylike1_2, ylike1_3, ylike1_4, ylike1_5, ylike1_6, ylike1_7, ylike1_8, ylike1_9, ylike1_10, ylike1_11, ylike1_12, ylike1_13, ylike1_14, ylike1_15, ylike1_16, ylike1_17, ylike1_18, ylike1_19, ylike1_20, ylike1_21, ylike1_22, ylike1_23, ylike1_24, ylike1_25, ylike1_26, ylike1_27, ylike1_28, wrapU, wrapI, fdivP, tmodP, beq_iff_eq, beq_eq_false_iff_ne, decide_eq_true_eq, decide_eq_false_iff_not, ne_eq] at h ha hb hc
  simp only [Int.reducePow] at h ha hb hc
  first | (clear h hc; omega) | (clear h; omega) | omega

theorem like1_122 (val : Nat → Int) (h : Holds val [.ne ylike1_24 0, .le (.wrap .i64 ylike1_3) 65535, .ge (.wrap .i64 ylike1_3) 0, .le (.shr ylike1_4 48) 32767, .ge (.shr ylike1_4 48) (-32768), .at ylike1_19 true, .at ylike1_25 true, .at ylike1_26 true, .at ylike1_28 true, .at ylike1_27 false, .at ylike1_12 true, .at ylike1_14 true, .at ylike1_13 false, .at ylike1_9 true, .at ylike1_20 false, .is ylike1_2 1, .ge (.a 0) (-9223372036854775808), .le (.a 0) 9223372036854775807]) : LikeQ val := by
  exfalso
  have hb : Holds val (List.drop 15 _) := fun f hf => h f (List.mem_of_mem_drop hf)
  have ha : Holds val (List.take 1 _) := fun f hf => h f (List.mem_of_mem_take hf)
  have hc : Holds val (List.take 2 _) := fun f hf => h f (List.mem_of_mem_take hf)
  simp only [List.take_succ_cons, List.take_zero, List.drop_succ_cons, List.drop_zero, Holds, List.forall_mem_cons, List.not_mem_nil, false_implies, implies_true, and_true, Fact.holds, SB.eval, SX.eval, ylike1_0, ylike1_1, ylike1_2, ylike1_3, ylike1_4, ylike1_5, ylike1_6, ylike1_7, ylike1_8, ylike1_9, ylike1_10, ylike1_11, ylike1_12, ylike1_13, ylike1_14, ylike1_15, ylike1_16, ylike1_17, ylike1_18, ylike1_19, ylike1_20, ylike1_21, ylike1_22, ylike1_23, ylike1_24, ylike1_25, ylike1_26, ylike1_27, ylike1_28, wrapU, wrapI, fdivP, tmodP, beq_iff_eq, beq_eq_false_iff_ne, decide_eq_true_eq, decide_eq_false_iff_not, ne_eq] at h ha hb hc
  simp only [Int.reducePow] at h ha hb hc
  first | (clear h hc; omega) | (clear h; omega) | omega

theorem like1_123 (val : Nat → Int) (h : Holds val [.ge (.wrap .i64 ylike1_3) 65536, .ge (.wrap .i64 ylike1_3) 0, .le (.shr ylike1_4 48) 32767, .ge (.shr ylike1_4 48) (-32768), .at ylike1_19 true, .at ylike1_25 true, .at ylike1_26 true, .at ylike1_28 true, .at ylike1_27 false, .at ylike1_12 true, .at ylike1_14 true, .at ylike1_13 false, .at ylike1_9 true, .at ylike1_20 false, .is ylike1_2 1, .ge (.a 0) (-9223372036854775808), .le (.a 0) 9223372036854775807]) : LikeQ val := by
  exfalso
  have hb : Holds val (List.drop 14 _) := fun f hf => h f (List.mem_of_mem_drop hf)
  have ha : Holds val (List.take 1 _) := fun f hf => h f (List.mem_of_mem_take hf)
  have hc : Holds val (List.take 2 _) := fun f hf => h f (List.mem_of_mem_take hf)
  simp only [List.take_succ_cons, List.take_zero, List.drop_succ_cons, List.drop_zero, Holds, List.forall_mem_cons, List.not_mem_nil, false_implies, implies_true, and_true, Fact.holds, SB.eval, SX.eval, ylike1_0, ylike1_1, ylike1_2, ylike1_3, ylike1_4, ylike1_5, ylike1_6, ylike1_7, ylike1_8, ylike1_9, ylike1_10, ylike1_11, ylike1_12, ylike1_13, ylike1_14, ylike1_15, ylike1_16, ylike1_17, ylike1_18, ylike1_19, ylike1_20, ylike1_21, ylike1_22, ylike1_23, ylike1_24, ylike1_25, ylike1_26, ylike1_27, ylike1_28, wrapU, wrapI, fdivP, tmodP, beq_iff_eq, beq_eq_false_iff_ne, decide_eq_true_eq, decide_eq_false_iff_not, ne_eq] at h ha hb hc
  simp only [Int.reducePow] at h ha hb hc
  first | (clear h hc; omega) | (clear h; omega) | omega

theorem like1_124 (val : Nat → Int) (h : Holds val [.le (.wrap .i64 ylike1_3) (-1), .le (.shr ylike1_4 48) 32767, .ge (.shr ylike1_4 48) (-32768), .at ylike1_19 true, .at ylike1_25 true, .at ylike1_26 true, .at ylike1_28 true, .at ylike1_27 false, .at ylike1_12 true, .at ylike1_14 true, .at ylike1_13 false, .at ylike1_9 true, .at ylike1_20 false, .is ylike1_2 1, .ge (.a 0) (-9223372036854775808), .le (.a 0) 9223372036854775807]) : LikeQ val := by
  exfalso
  have hb : Holds val (List.drop 13 _) := fun f hf => h f (List.mem_of_mem_drop hf)
  have ha : Holds val (List.take 1 _) := fun f hf => h f (List.mem_of_mem_take hf)
  have hc : Holds val (List.take 2 _) := fun f hf => h f (List.mem_of_mem_take hf)
  simp only [List.take_succ_cons, List.take_zero, List.drop_succ_cons, List.drop_zero, Holds, List.forall_mem_cons, List.not_mem_nil, false_implies, implies_true, and_true, Fact.holds, SB.eval, SX.eval, ylike1_0, ylike1_1, ylike1_2, ylike1_3, ylike1_4, ylike1_5, ylike1_6, ylike1_7, ylike1_8, ylike1_9, ylike1_10, ylike1_11, ylike1_12, ylike1_13, ylike1_14, ylike1_15, ylike1_16, ylike1_17, ylike1_18, ylike1_19, ylike1_20, ylike1_21, ylike1_22, ylike1_23, ylike1_24, ylike1_25, ylike1_26, ylike1_27, ylike1_28, wrapU, wrapI, fdivP, tmodP, beq_iff_eq, beq_eq_false_iff_ne, decide_eq_true_eq, decide_eq_false_iff_not, ne_eq] at h ha hb hc
  simp only [Int.reducePow] at h ha hb hc
  first | (clear h hc; omega) | (clear h; omega) | omega

theorem like1_125 (val : Nat → Int) (h : Holds val [.ge (.shr ylike1_4 48) 32768, .ge (.shr ylike1_4 48) (-32768), .at ylike1_19 true, .at ylike1_25 true, .at ylike1_26 true, .at ylike1_28 true, .at ylike1_27 false, .at ylike1_12 true, .at ylike1_14 true, .at ylike1_13 false, .at ylike1_9 true, .at ylike1_20 false, .is ylike1_2 1, .ge (.a 0) (-9223372036854775808), .le (.a 0) 9223372036854775807]) : LikeQ val := by
  exfalso
  have hb : Holds val (List.drop 12 _) := fun f hf => h f (List.mem_of_mem_drop hf)
  have ha : Holds val (List.take 1 _) := fun f hf => h f (List.mem_of_mem_take hf)
  have hc : Holds val (List.take 2 _) := fun f hf => h f (List.mem_of_mem_take hf)
  simp only [List.take_succ_cons, List.take_zero, List.drop_succ_cons, List.drop_zero, Holds, List.forall_mem_cons, List.not_mem_nil, false_implies, implies_true, and_true, Fact.holds, SB.eval, SX.eval, ylike1_0, ylike1_1, ylike1_2, ylike1_3, ylike1_4, ylike1_5, ylike1_6, ylike1_7, ylike1_8, ylike1_9, ylike1_10, ylike1_11, ylike1_12, ylike1_13, ylike1_14, ylike1_15, ylike1_16, ylike1_17, ylike1_18, ylike1_19, ylike1_20, ylike1_21, ylike1_22, ylike1_23, ylike1_24, ylike1_25, ylike1_26, ylike1_27, ylike1_28, wrapU, wrapI, fdivP, tmodP, beq_iff_eq, beq_eq_false_iff_ne, decide_eq_true_eq, decide_eq_false_iff_not, ne_eq] at h ha hb hc
  simp only [Int.reducePow] at h ha hb hc
  first | (clear h hc; omega) | (clear h; omega) | omega

theorem like1_126 (val : Nat → Int) (h : Holds val [.le (.shr ylike1_4 48) (-32769), .at ylike1_19 true, .at ylike1_25 true, .at ylike1_26 true, .at ylike1_28 true, .at ylike1_27 false, .at ylike1_12 true, .at ylike1_14 true, .at ylike1_13 false, .at ylike1_9 true, .at ylike1_20 false, .is ylike1_2 1, .ge (.a 0) (-9223372036854775808), .le (.a 0) 9223372036854775807]) : LikeQ val := by
  exfalso
  have hb : Holds val (List.drop 11 _) := fun f hf => h f (List.mem_of_mem_drop hf)
  have ha : Holds val (List.take 1 _) := fun f hf => h f (List.mem_of_mem_take hf)
  have hc : Holds val (List.take 2 _) := fun f hf => h f (List.mem_of_mem_take hf)
  simp only [List.take_succ_cons, List.take_zero, List.drop_succ_cons, List.drop_zero, Holds, List.forall_mem_cons, List.not_mem_nil, false_implies, implies_true, and_true, Fact.holds, SB.eval, SX.eval, ylike1_0, ylike1_1, ylike1_2, ylike1_3, ylike1_4, ylike1_5, ylike1_6, ylike1_7, ylike1_8, ylike1_9, ylike1_10, ylike1_11, ylike1_12, ylike1_13, ylike1_14, ylike1_15, ylike1_16, ylike1_17, ylike1_18, ylike1_19, ylike1_20, ylike1_21, ylike1_22, ylike1_23, ylike1_24, ylike1_25, ylike1_26, ylike1_27, ylike1_28, wrapU, wrapI, fdivP, tmodP, beq_iff_eq, beq_eq_false_iff_ne, decide_eq_true_eq, decide_eq_false_iff_not, ne_eq] at h ha hb hc
  simp only [Int.reducePow] at h ha hb hc
  first | (clear h hc; omega) | (clear h; omega) | omega

theorem like1_127 (val : Nat → Int) (h : Holds val [.at ylike1_19 false, .at ylike1_25 true, .at ylike1_26 true, .at ylike1_28 true, .at ylike1_27 false, .at ylike1_12 true, .at ylike1_14 true, .at ylike1_13 false, .at ylike1_9 true, .at ylike1_20 false, .is ylike1_2 1, .ge (.a 0) (-9223372036854775808), .le (.a 0) 9223372036854775807]) : LikeQ val := by
  exfalso
  have hb : Holds val (List.drop 10 _) := fun f hf => h f (List.mem_of_mem_drop hf)
  have ha : Holds val (List.take 1 _) := fun f hf => h f (List.mem_of_mem_take hf)
  have hc : Holds val (List.take 2 _) := fun f hf => h f (List.mem_of_mem_take hf)
  simp only [List.take_succ_cons, List.take_zero, List.drop_succ_cons, List.drop_zero, Holds, List.forall_mem_cons, List.not_mem_nil, false_implies, implies_true, and_true, Fact.holds, SB.eval, SX.eval, ylike1_0, ylike1_1, ylike1_2, ylike1_3, ylike1_4, ylike1_5, ylike1_6, ylike1_7, ylike1_8, ylike1_9, ylike1_10, ylike1_11, ylike1_12, ylike1_13, ylike1_14, ylike1_15, ylike1_16, ylike1_17, ylike1_18, ylike1_19, ylike1_20, ylike1_21, ylike1_22, ylike1_23, ylike1_24, ylike1_25, ylike1_26, ylike1_27, ylike1_28, wrapU, wrapI, fdivP, tmodP, beq_iff_eq, beq_eq_false_iff_ne, decide_eq_true_eq, decide_eq_false_iff_not, ne_eq] at h ha hb hc
  simp only [Int.reducePow] at h ha hb hc
  first | (clear h hc; omega) | (clear h; omega) | omega

theorem like1_128 (val : Nat → Int) (h : Holds val [.at ylike1_25 false, .at ylike1_26 true, .at ylike1_28 true, .at ylike1_27 false, .at ylike1_12 true, .at ylike1_14 true, .at ylike1_13 false, .at ylike1_9 true, .at ylike1_20 false, .is ylike1_2 1, .ge (.a 0) (-9223372036854775808), .le (.a 0) 9223372036854775807]) : LikeQ val := by
  exfalso
  have hb : Holds val (List.drop 9 _) := fun f hf => h f (List.mem_of_mem_drop hf)
  have ha : Holds val (List.take 1 _) := fun f hf => h f (List.mem_of_mem_take hf)
  have hc : Holds val (List.take 2 _) := fun f hf => h f (List.mem_of_mem_take hf)
  simp only [List.take_succ_cons, List.take_zero, List.drop_succ_cons, List.drop_zero, Holds, List.forall_mem_cons, List.not_mem_nil, false_implies, implies_true, and_true, Fact.holds, SB.eval, SX.eval, ylike1_0, ylike1_1, ylike1_2, ylike1_3, ylike1_4, ylike1_5, ylike1_6, ylike1_7, ylike1_8, ylike1_9, ylike1_10, ylike1_11, ylike1_12, ylike1_13, ylike1_14, ylike1_15, ylike1_16, ylike1_17, ylike1_18, ylike1_19, ylike1_20, ylike1_21, ylike1_22, ylike1_23, ylike1_24, ylike1_25, ylike1_26, ylike1_27, ylike1_28, wrapU, wrapI, fdivP, tmodP, beq_iff_eq, beq_eq_false_iff_ne, decide_eq_true_eq, decide_eq_false_iff_not, ne_eq] at h ha hb hc
  simp only [Int.reducePow] at h ha hb hc
  first | (clear h hc; omega) | (clear h; omega) | omega

theorem like1_129 (val : Nat → Int) (h : Holds val [.at ylike1_26 false, .at ylike1_28 true, .at ylike1_27 false, .at ylike1_12 true, .at ylike1_14 true, .at ylike1_13 false, .at ylike1_9 true, .at ylike1_20 false, .is ylike1_2 1, .ge (.a 0) (-9223372036854775808), .le (.a 0) 9223372036854775807]) : LikeQ val := by
  exfalso
  have hb : Holds val (List.drop 8 _) := fun f hf => h f (List.mem_of_mem_drop hf)
  have ha : Holds val (List.take 1 _) := fun f hf => h f (List.mem_of_mem_take hf)
  have hc : Holds val (List.take 2 _) := fun f hf => h f (List.mem_of_mem_take hf)
  simp only [List.take_succ_cons, List.take_zero, List.drop_succ_cons, List.drop_zero, Holds, List.forall_mem_cons, List.not_mem_nil, false_implies, implies_true, and_true, Fact.holds, SB.eval, SX.eval, ylike1_0, ylike1_1, ylike1_2, ylike1_3, ylike1_4, ylike1_5, ylike1_6, ylike1_7, ylike1_8, ylike1_9, ylike1_10, ylike1_11, ylike1_12, ylike1_13, ylike1_14, ylike1_15, ylike1_16, ylike1_17, ylike1_18, ylike1_19, ylike1_20, ylike1_21, ylike1_22, ylike1_23, ylike1_24, ylike1_25, ylike1_26, ylike1_27, ylike1_28, wrapU, wrapI, fdivP, tmodP, beq_iff_eq, beq_eq_false_iff_ne, decide_eq_true_eq, decide_eq_false_iff_not, ne_eq] at h ha hb hc
  simp only [Int.reducePow] at h ha hb hc
  first | (clear h hc; omega) | (clear h; omega) | omega

theorem like1_130 (val : Nat → Int) (h : Holds val [.is (.a 0) 0, .is (.wrap .i64 ylike1_3) 0, .at ylike1_28 false, .at ylike1_27 false, .at ylike1_12 true, .at ylike1_14 true, .at ylike1_13 false, .at ylike1_9 true, .at ylike1_20 false, .is ylike1_2 1, .ge (.a 0) (-9223372036854775808), .le (.a 0) 9223372036854775807]) : LikeQ val :=
  leafK h (by kernel_rfl)

theorem like1_131 (val : Nat → Int) (h : Holds val [.le (.a 0) (-32769), .is (.shr ylike1_4 48) 0, .is ylike1_7 0, .ne (.a 0) 0, .is (.wrap .i64 ylike1_3) 0, .at ylike1_28 false, .at ylike1_27 false, .at ylike1_12 true, .at ylike1_14 true, .at ylike1_13 false, .at ylike1_9 true, .at ylike1_20 false, .is ylike1_2 1, .ge (.a 0) (-9223372036854775808), .le (.a 0) 9223372036854775807]) : LikeQ val :=
  leafK h (by kernel_rfl)

theorem like1_132 (val : Nat → Int) (h : Holds val [.ge (.a 0) 65536, .ge (.a 0) (-32768), .is (.shr ylike1_4 48) 0, .is ylike1_7 0, .ne (.a 0) 0, .is (.wrap .i64 ylike1_3) 0, .at ylike1_28 false, .at ylike1_27 false, .at ylike1_12 true, .at ylike1_14 true, .at ylike1_13 false, .at ylike1_9 true, .at ylike1_20 false, .is ylike1_2 1, .ge (.a 0) (-9223372036854775808), .le (.a 0) 9223372036854775807]) : LikeQ val :=
  leafK h (by kernel_rfl)

theorem like1_133 (val : Nat → Int) (h : Holds val [.le (.a 0) 65535, .ge (.a 0) (-32768), .is (.shr ylike1_4 48) 0, .is ylike1_7 0, .ne (.a 0) 0, .is (.wrap .i64 ylike1_3) 0, .at ylike1_28 false, .at ylike1_27 false, .at ylike1_12 true, .at ylike1_14 true, .at ylike1_13 false, .at ylike1_9 true, .at ylike1_20 false, .is ylike1_2 1, .ge (.a 0) (-9223372036854775808), .le (.a 0) 9223372036854775807]) : LikeQ val := by
  exfalso
  have hb : Holds val (List.drop 13 _) := fun f hf => h f (List.mem_of_mem_drop hf)
  have ha : Holds val (List.take 1 _) := fun f hf => h f (List.mem_of_mem_take hf)
  have hc : Holds val (List.take 2 _) := fun f hf => h f (List.mem_of_mem_take hf)
  simp only [List.take_succ_cons, List.take_zero, List.drop_succ_cons, List.drop_zero, Holds, List.forall_mem_cons, List.not_mem_nil, false_implies, implies_true, and_true, Fact.holds, SB.eval, SX.eval, ylike1_0, ylike1_1, ylike1_2, ylike1_3, ylike1_4, ylike1_5, ylike1_6, ylike1_7, ylike1_8, ylike1_9, ylike1_10, ylike1_11, ylike1_12, ylike1_13, ylike1_14, ylike1_15, ylike1_16, ylike1_17, ylike1_18, ylike1_19, ylike1_20, ylike1_21, ylike1_22, ylike1_23, ylike1_24, ylike1_25, ylike1_26, ylike1_27, ylike1_28, wrapU, wrapI, fdivP, tmodP, beq_iff_eq, beq_eq_false_iff_ne, decide_eq_true_eq, decide_eq_false_iff_not, ne_eq] at h ha hb hc
  simp only [Int.reducePow] at h ha hb hc
  first | (clear h hc; omega) | (clear h; omega) | omega

theorem like1_134 (val : Nat → Int) (h : Holds val [.ne (.shr ylike1_4 48) 0, .is ylike1_7 0, .ne (.a 0) 0, .is (.wrap .i64 ylike1_3) 0, .at ylike1_28 false, .at ylike1_27 false, .at ylike1_12 true, .at ylike1_14 true, .at ylike1_13 false, .at ylike1_9 true, .at ylike1_20 false, .is ylike1_2 1, .ge (.a 0) (-9223372036854775808), .le (.a 0) 9223372036854775807]) : LikeQ val := by
  exfalso
  have hb : Holds val (List.drop 11 _) := fun f hf => h f (List.mem_of_mem_drop hf)
  have ha : Holds val (List.take 1 _) := fun f hf => h f (List.mem_of_mem_take hf)
  have hc : Holds val (List.take 2 _) := fun f hf => h f (List.mem_of_mem_take hf)
  simp only [List.take_succ_cons, List.take_zero, List.drop_succ_cons, List.drop_zero, Holds, List.forall_mem_cons, List.not_mem_nil, false_implies, implies_true, and_true, Fact.holds, SB.eval, SX.eval, ylike1_0, ylike1_1, ylike1_2, ylike1_3, ylike1_4, ylike1_5, ylike1_6, ylike1_7, ylike1_8, ylike1_9, ylike1_10, ylike1_11, ylike1_12, ylike1_13, ylike1_14, ylike1_15, ylike1_16, ylike1_17, ylike1_18, ylike1_19, ylike1_20, ylike1_21, ylike1_22, ylike1_23, ylike1_24, ylike1_25, ylike1_26, ylike1_27, ylike1_28, wrapU, wrapI, fdivP, tmodP, beq_iff_eq, beq_eq_false_iff_ne, decide_eq_true_eq, decide_eq_false_iff_not, ne_eq] at h ha hb hc
  simp only [Int.reducePow] at h ha hb hc
  first | (clear h hc; omega) | (clear h; omega) | omega

theorem like1_135 (val : Nat → Int) (h : Holds val [.ne ylike1_7 0, .ne (.a 0) 0, .is (.wrap .i64 ylike1_3) 0, .at ylike1_28 false, .at ylike1_27 false, .at ylike1_12 true, .at ylike1_14 true, .at ylike1_13 false, .at ylike1_9 true, .at ylike1_20 false, .is ylike1_2 1, .ge (.a 0) (-9223372036854775808), .le (.a 0) 9223372036854775807]) : LikeQ val := by
  exfalso
  have hb : Holds val (List.drop 10 _) := fun f hf => h f (List.mem_of_mem_drop hf)
  have ha : Holds val (List.take 1 _) := fun f hf => h f (List.mem_of_mem_take hf)
  have hc : Holds val (List.take 2 _) := fun f hf => h f (List.mem_of_mem_take hf)
  simp only [List.take_succ_cons, List.take_zero, List.drop_succ_cons, List.drop_zero, Holds, List.forall_mem_cons, List.not_mem_nil, false_implies, implies_true, and_true, Fact.holds, SB.eval, SX.eval, ylike1_0, ylike1_1, ylike1_2, ylike1_3, ylike1_4, ylike1_5, ylike1_6, ylike1_7, ylike1_8, ylike1_9, ylike1_10, ylike1_11, ylike1_12, ylike1_13, ylike1_14, ylike1_15, ylike1_16, ylike1_17, ylike1_18, ylike1_19, ylike1_20, ylike1_21, ylike1_22, ylike1_23, ylike1_24, ylike1_25, ylike1_26, ylike1_27, ylike1_28, wrapU, wrapI, fdivP, tmodP, beq_iff_eq, beq_eq_false_iff_ne, decide_eq_true_eq, decide_eq_false_iff_not, ne_eq] at h ha hb hc
  simp only [Int.reducePow] at h ha hb hc
  first | (clear h hc; omega) | (clear h; omega) | omega

theorem like1_136 (val : Nat → Int) (h : Holds val [.ne (.wrap .i64 ylike1_3) 0, .at ylike1_28 false, .at ylike1_27 false, .at ylike1_12 true, .at ylike1_14 true, .at ylike1_13 false, .at ylike1_9 true, .at ylike1_20 false, .is ylike1_2 1, .ge (.a 0) (-9223372036854775808), .le (.a 0) 9223372036854775807]) : LikeQ val := by
  exfalso
  have hb : Holds val (List.drop 8 _) := fun f hf => h f (List.mem_of_mem_drop hf)
  have ha : Holds val (List.take 1 _) := fun f hf => h f (List.mem_of_mem_take hf)
  have hc : Holds val (List.take 2 _) := fun f hf => h f (List.mem_of_mem_take hf)
  simp only [List.take_succ_cons, List.take_zero, List.drop_succ_cons, List.drop_zero, Holds, List.forall_mem_cons, List.not_mem_nil, false_implies, implies_true, and_true, Fact.holds, SB.eval, SX.eval, ylike1_0, ylike1_1, ylike1_2, ylike1_3, ylike1_4, ylike1_5, ylike1_6, ylike1_7, ylike1_8, ylike1_9, ylike1_10, ylike1_11, ylike1_12, ylike1_13, ylike1_14, ylike1_15, ylike1_16, ylike1_17, ylike1_18, ylike1_19, ylike1_20, ylike1_21, ylike1_22, ylike1_23, ylike1_24, ylike1_25, ylike1_26, ylike1_27, ylike1_28, wrapU, wrapI, fdivP, tmodP, beq_iff_eq, beq_eq_false_iff_ne, decide_eq_true_eq, decide_eq_false_iff_not, ne_eq] at h ha hb hc
  simp only [Int.reducePow] at h ha hb hc
  first | (clear h hc; omega) | (clear h; omega) | omega

theorem like1_137 (val : Nat → Int) (h : Holds val [.at ylike1_12 false, .at ylike1_14 true, .at ylike1_13 false, .at ylike1_9 true, .at ylike1_20 false, .is ylike1_2 1, .ge (.a 0) (-9223372036854775808), .le (.a 0) 9223372036854775807]) : LikeQ val := by
  exfalso
  have hb : Holds val (List.drop 5 _) := fun f hf => h f (List.mem_of_mem_drop hf)
  have ha : Holds val (List.take 1 _) := fun f hf => h f (List.mem_of_mem_take hf)
  have hc : Holds val (List.take 2 _) := fun f hf => h f (List.mem_of_mem_take hf)
  simp only [List.take_succ_cons, List.take_zero, List.drop_succ_cons, List.drop_zero, Holds, List.forall_mem_cons, List.not_mem_nil, false_implies, implies_true, and_true, Fact.holds, SB.eval, SX.eval, ylike1_0, ylike1_1, ylike1_2, ylike1_3, ylike1_4, ylike1_5, ylike1_6, ylike1_7, ylike1_8, ylike1_9, ylike1_10, ylike1_11, ylike1_12, ylike1_13, ylike1_14, ylike1_15, ylike1_16, ylike1_17, ylike1_18, ylike1_19, ylike1_20, ylike1_21, ylike1_22, ylike1_23, ylike1_24, ylike1_25, ylike1_26, ylike1_27, ylike1_28, wrapU, wrapI, fdivP, tmodP, beq_iff_eq, beq_eq_false_iff_ne, decide_eq_true_eq, decide_eq_false_iff_not, ne_eq] at h ha hb hc
  simp only [Int.reducePow] at h ha hb hc
  first | (clear h hc; omega) | (clear h; omega) | omega

theorem like1_138 (val : Nat → Int) (h : Holds val [.is (.a 0) 0, .is (.shr ylike1_4 48) 0, .at ylike1_14 false, .at ylike1_13 false, .at ylike1_9 true, .at ylike1_20 false, .is ylike1_2 1, .ge (.a 0) (-9223372036854775808), .le (.a 0) 9223372036854775807]) : LikeQ val :=
  leafK h (by kernel_rfl)

theorem like1_139 (val : Nat → Int) (h : Holds val [.le (.a 0) (-32769), .ne (.a 0) 0, .is (.shr ylike1_4 48) 0, .at ylike1_14 false, .at ylike1_13 false, .at ylike1_9 true, .at ylike1_20 false, .is ylike1_2 1, .ge (.a 0) (-9223372036854775808), .le (.a 0) 9223372036854775807]) : LikeQ val :=
  leafK h (by kernel_rfl)

theorem like1_140 (val : Nat → Int) (h : Holds val [.ge (.a 0) 65536, .ge (.a 0) (-32768), .ne (.a 0) 0, .is (.shr ylike1_4 48) 0, .at ylike1_14 false, .at ylike1_13 false, .at ylike1_9 true, .at ylike1_20 false, .is ylike1_2 1, .ge (.a 0) (-9223372036854775808), .le (.a 0) 9223372036854775807]) : LikeQ val :=
  leafK h (by kernel_rfl)

theorem like1_141 (val : Nat → Int) (h : Holds val [.le (.a 0) 65535, .ge (.a 0) (-32768), .ne (.a 0) 0, .is (.shr ylike1_4 48) 0, .at ylike1_14 false, .at ylike1_13 false, .at ylike1_9 true, .at ylike1_20 false, .is ylike1_2 1, .ge (.a 0) (-9223372036854775808), .le (.a 0) 9223372036854775807]) : LikeQ val := by
  exfalso
  have hb : Holds val (List.drop 8 _) := fun f hf => h f (List.mem_of_mem_drop hf)
  have ha : Holds val (List.take 1 _) := fun f hf => h f (List.mem_of_mem_take hf)
  have hc : Holds val (List.take 2 _) := fun f hf => h f (List.mem_of_mem_take hf)
  simp only [List.take_succ_cons, List.take_zero, List.drop_succ_cons, List.drop_zero, Holds, List.forall_mem_cons, List.not_mem_nil, false_implies, implies_true, and_true, Fact.holds, SB.eval, SX.eval, ylike1_0, ylike1_1, ylike1_2, ylike1_3, ylike1_4, ylike1_5, ylike1_6, ylike1_7, ylike1_8, ylike1_9, ylike1_10, ylike1_11, ylike1_12, ylike1_13, ylike1_14, ylike1_15, ylike1_16, ylike1_17, ylike1_18, ylike1_19, ylike1_20, ylike1_21, ylike1_22, ylike1_23, ylike1_24, ylike1_25, ylike1_26, ylike1_27, ylike1_28, wrapU, wrapI, fdivP, tmodP, beq_iff_eq, beq_eq_false_iff_ne, decide_eq_true_eq, decide_eq_false_iff_not, ne_eq] at h ha hb hc
  simp only [Int.reducePow] at h ha hb hc
  first | (clear h hc; omega) | (clear h; omega) | omega

theorem like1_142 (val : Nat → Int) (h : Holds val [.ne (.shr ylike1_4 48) 0, .at ylike1_14 false, .at ylike1_13 false, .at ylike1_9 true, .at ylike1_20 false, .is ylike1_2 1, .ge (.a 0) (-9223372036854775808), .le (.a 0) 9223372036854775807]) : LikeQ val := by
  exfalso
  have hb : Holds val (List.drop 5 _) := fun f hf => h f (List.mem_of_mem_drop hf)
  have ha : Holds val (List.take 1 _) := fun f hf => h f (List.mem_of_mem_take hf)
  have hc : Holds val (List.take 2 _) := fun f hf => h f (List.mem_of_mem_take hf)
  simp only [List.take_succ_cons, List.take_zero, List.drop_succ_cons, List.drop_zero, Holds, List.forall_mem_cons, List.not_mem_nil, false_implies, implies_true, and_true, Fact.holds, SB.eval, SX.eval, ylike1_0, ylike1_1, ylike1_2, ylike1_3, ylike1_4, ylike1_5, ylike1_6, ylike1_7, ylike1_8, ylike1_9, ylike1_10, ylike1_11, ylike1_12, ylike1_13, ylike1_14, ylike1_15, ylike1_16, ylike1_17, ylike1_18, ylike1_19, ylike1_20, ylike1_21, ylike1_22, ylike1_23, ylike1_24, ylike1_25, ylike1_26, ylike1_27, ylike1_28, wrapU, wrapI, fdivP, tmodP, beq_iff_eq, beq_eq_false_iff_ne, decide_eq_true_eq, decide_eq_false_iff_not, ne_eq] at h ha hb hc
  simp only [Int.reducePow] at h ha hb hc
  first | (clear h hc; omega) | (clear h; omega) | omega

theorem like1_143 (val : Nat → Int) (h : Holds val [.le (.a 0) (-32769), .at ylike1_9 false, .at ylike1_20 false, .is ylike1_2 1, .ge (.a 0) (-9223372036854775808), .le (.a 0) 9223372036854775807]) : LikeQ val :=
  leafK h (by kernel_rfl)

theorem like1_144 (val : Nat → Int) (h : Holds val [.ge (.a 0) 65536, .ge (.a 0) (-32768), .at ylike1_9 false, .at ylike1_20 false, .is ylike1_2 1, .ge (.a 0) (-9223372036854775808), .le (.a 0) 9223372036854775807]) : LikeQ val :=
  leafK h (by kernel_rfl)

theorem like1_145 (val : Nat → Int) (h : Holds val [.le (.a 0) 65535, .ge (.a 0) (-32768), .at ylike1_9 false, .at ylike1_20 false, .is ylike1_2 1, .ge (.a 0) (-9223372036854775808), .le (.a 0) 9223372036854775807]) : LikeQ val := by
  exfalso
  have hb : Holds val (List.drop 4 _) := fun f hf => h f (List.mem_of_mem_drop hf)
  have ha : Holds val (List.take 1 _) := fun f hf => h f (List.mem_of_mem_take hf)
  have hc : Holds val (List.take 2 _) := fun f hf => h f (List.mem_of_mem_take hf)
  simp only [List.take_succ_cons, List.take_zero, List.drop_succ_cons, List.drop_zero, Holds, List.forall_mem_cons, List.not_mem_nil, false_implies, implies_true, and_true, Fact.holds, SB.eval, SX.eval, ylike1_0, ylike1_1, ylike1_2, ylike1_3, ylike1_4, ylike1_5, ylike1_6, ylike1_7, ylike1_8, ylike1_9, ylike1_10, ylike1_11, ylike1_12, ylike1_13, ylike1_14, ylike1_15, ylike1_16, ylike1_17, ylike1_18, ylike1_19, ylike1_20, ylike1_21, ylike1_22, ylike1_23, ylike1_24, ylike1_25, ylike1_26, ylike1_27, ylike1_28, wrapU, wrapI, fdivP, tmodP, beq_iff_eq, beq_eq_false_iff_ne, decide_eq_true_eq, decide_eq_false_iff_not, ne_eq] at h ha hb hc
  simp only [Int.reducePow] at h ha hb hc
  first | (clear h hc; omega) | (clear h; omega) | omega

theorem like1Sub2 (val : Nat → Int) (h : Holds val [.at ylike1_27 false, .at ylike1_12 true, .at ylike1_13 true, .at ylike1_20 true, .is ylike1_2 1, .ge (.a 0) (-9223372036854775808), .le (.a 0) 9223372036854775807]) : LikeQ val :=
  by_way ylike1_28 (.at ylike1_28 true) (.at ylike1_28 false) (by kernel_rfl) (by kernel_rfl) h
  (fun h => by_way ylike1_26 (.at ylike1_26 true) (.at ylike1_26 false) (by kernel_rfl) (by kernel_rfl) h
  (fun h => by_way ylike1_25 (.at ylike1_25 true) (.at ylike1_25 false) (by kernel_rfl) (by kernel_rfl) h
  (fun h => by_way ylike1_19 (.at ylike1_19 true) (.at ylike1_19 false) (by kernel_rfl) (by kernel_rfl) h
  (fun h => by_way (.le (.c (-32768)) (.shr ylike1_4 48)) (.ge (.shr ylike1_4 48) (-32768)) (.le (.shr ylike1_4 48) (-32769)) (by kernel_rfl) (by kernel_rfl) h
  (fun h => by_way (.lt (.shr ylike1_4 48) (.c 32768)) (.le (.shr ylike1_4 48) 32767) (.ge (.shr ylike1_4 48) 32768) (by kernel_rfl) (by kernel_rfl) h
  (fun h => by_way (.le (.c 0) (.wrap .i64 ylike1_3)) (.ge (.wrap .i64 ylike1_3) 0) (.le (.wrap .i64 ylike1_3) (-1)) (by kernel_rfl) (by kernel_rfl) h
  (fun h => by_way (.lt (.wrap .i64 ylike1_3) (.c 65536)) (.le (.wrap .i64 ylike1_3) 65535) (.ge (.wrap .i64 ylike1_3) 65536) (by kernel_rfl) (by kernel_rfl) h
  (fun h => by_way (.eq ylike1_24 (.c 0)) (.is ylike1_24 0) (.ne ylike1_24 0) (by kernel_rfl) (by kernel_rfl) h
  (fun h => by_way (.eq ylike1_23 (.c 0)) (.is ylike1_23 0) (.ne ylike1_23 0) (by kernel_rfl) (by kernel_rfl) h
  (fun h => like1_10 val h)
  (fun h => like1_11 val h))
  (fun h => like1_12 val h))
  (fun h => like1_13 val h))
  (fun h => like1_14 val h))
  (fun h => like1_15 val h))
  (fun h => like1_16 val h))
  (fun h => like1_17 val h))
  (fun h => like1_18 val h))
  (fun h => like1_19 val h))
  (fun h => by_way ylike1_21 (.is (.wrap .i64 ylike1_3) 0) (.ne (.wrap .i64 ylike1_3) 0) (by kernel_rfl) (by kernel_rfl) h
  (fun h => by_way (.eq (.a 0) (.c 0)) (.is (.a 0) 0) (.ne (.a 0) 0) (by kernel_rfl) (by kernel_rfl) h
  (fun h => like1_20 val h)
  (fun h => by_way ylike1_9 (.at ylike1_9 true) (.at ylike1_9 false) (by kernel_rfl) (by kernel_rfl) h
  (fun h => by_way (.eq ylike1_7 (.c 0)) (.is ylike1_7 0) (.ne ylike1_7 0) (by kernel_rfl) (by kernel_rfl) h
  (fun h => by_way ylike1_10 (.is (.shr ylike1_4 48) 0) (.ne (.shr ylike1_4 48) 0) (by kernel_rfl) (by kernel_rfl) h
  (fun h => by_way (.lt (.a 0) (.c (-32768))) (.le (.a 0) (-32769)) (.ge (.a 0) (-32768)) (by kernel_rfl) (by kernel_rfl) h
  (fun h => like1_21 val h)
  (fun h => by_way (.le (.c 65536) (.a 0)) (.ge (.a 0) 65536) (.le (.a 0) 65535) (by kernel_rfl) (by kernel_rfl) h
  (fun h => like1_22 val h)
  (fun h => like1_23 val h)))
  (fun h => by_way ylike1_14 (.at ylike1_14 true) (.at ylike1_14 false) (by kernel_rfl) (by kernel_rfl) h
  (fun h => like1_24 val h)
  (fun h => like1_25 val h)))
  (fun h => like1_26 val h))
  (fun h => by_way (.lt (.a 0) (.c (-32768))) (.le (.a 0) (-32769)) (.ge (.a 0) (-32768)) (by kernel_rfl) (by kernel_rfl) h
  (fun h => like1_27 val h)
  (fun h => by_way (.le (.c 65536) (.a 0)) (.ge (.a 0) 65536) (.le (.a 0) 65535) (by kernel_rfl) (by kernel_rfl) h
  (fun h => like1_28 val h)
  (fun h => like1_29 val h)))))
  (fun h => like1_30 val h))

theorem like1Sub1 (val : Nat → Int) (h : Holds val [.at ylike1_12 true, .at ylike1_13 true, .at ylike1_20 true, .is ylike1_2 1, .ge (.a 0) (-9223372036854775808), .le (.a 0) 9223372036854775807]) : LikeQ val :=
  by_way ylike1_27 (.at ylike1_27 true) (.at ylike1_27 false) (by kernel_rfl) (by kernel_rfl) h
  (fun h => by_way ylike1_26 (.at ylike1_26 true) (.at ylike1_26 false) (by kernel_rfl) (by kernel_rfl) h
  (fun h => by_way ylike1_25 (.at ylike1_25 true) (.at ylike1_25 false) (by kernel_rfl) (by kernel_rfl) h
  (fun h => by_way ylike1_19 (.at ylike1_19 true) (.at ylike1_19 false) (by kernel_rfl) (by kernel_rfl) h
  (fun h => by_way (.le (.c (-32768)) (.shr ylike1_4 48)) (.ge (.shr ylike1_4 48) (-32768)) (.le (.shr ylike1_4 48) (-32769)) (by kernel_rfl) (by kernel_rfl) h
  (fun h => by_way (.lt (.shr ylike1_4 48) (.c 32768)) (.le (.shr ylike1_4 48) 32767) (.ge (.shr ylike1_4 48) 32768) (by kernel_rfl) (by kernel_rfl) h
  (fun h => by_way (.le (.c 0) (.wrap .i64 ylike1_3)) (.ge (.wrap .i64 ylike1_3) 0) (.le (.wrap .i64 ylike1_3) (-1)) (by kernel_rfl) (by kernel_rfl) h
  (fun h => by_way (.lt (.wrap .i64 ylike1_3) (.c 65536)) (.le (.wrap .i64 ylike1_3) 65535) (.ge (.wrap .i64 ylike1_3) 65536) (by kernel_rfl) (by kernel_rfl) h
  (fun h => by_way (.eq ylike1_24 (.c 0)) (.is ylike1_24 0) (.ne ylike1_24 0) (by kernel_rfl) (by kernel_rfl) h
  (fun h => by_way (.eq ylike1_23 (.c 0)) (.is ylike1_23 0) (.ne ylike1_23 0) (by kernel_rfl) (by kernel_rfl) h
  (fun h => like1_0 val h)
  (fun h => like1_1 val h))
  (fun h => like1_2 val h))
  (fun h => like1_3 val h))
  (fun h => like1_4 val h))
  (fun h => like1_5 val h))
  (fun h => like1_6 val h))
  (fun h => like1_7 val h))
  (fun h => like1_8 val h))
  (fun h => like1_9 val h))
  (fun h => like1Sub2 val h)

theorem like1Sub0 (val : Nat → Int) (h : Holds val [.at ylike1_13 true, .at ylike1_20 true, .is ylike1_2 1, .ge (.a 0) (-9223372036854775808), .le (.a 0) 9223372036854775807]) : LikeQ val :=
  by_way ylike1_12 (.at ylike1_12 true) (.at ylike1_12 false) (by kernel_rfl) (by kernel_rfl) h
  (fun h => like1Sub1 val h)
  (fun h => like1_31 val h)

theorem like1Sub6 (val : Nat → Int) (h : Holds val [.at ylike1_27 false, .at ylike1_12 true, .at ylike1_14 true, .at ylike1_13 false, .at ylike1_20 true, .is ylike1_2 1, .ge (.a 0) (-9223372036854775808), .le (.a 0) 9223372036854775807]) : LikeQ val :=
  by_way ylike1_28 (.at ylike1_28 true) (.at ylike1_28 false) (by kernel_rfl) (by kernel_rfl) h
  (fun h => by_way ylike1_26 (.at ylike1_26 true) (.at ylike1_26 false) (by kernel_rfl) (by kernel_rfl) h
  (fun h => by_way ylike1_25 (.at ylike1_25 true) (.at ylike1_25 false) (by kernel_rfl) (by kernel_rfl) h
  (fun h => by_way ylike1_19 (.at ylike1_19 true) (.at ylike1_19 false) (by kernel_rfl) (by kernel_rfl) h
  (fun h => by_way (.le (.c (-32768)) (.shr ylike1_4 48)) (.ge (.shr ylike1_4 48) (-32768)) (.le (.shr ylike1_4 48) (-32769)) (by kernel_rfl) (by kernel_rfl) h
  (fun h => by_way (.lt (.shr ylike1_4 48) (.c 32768)) (.le (.shr ylike1_4 48) 32767) (.ge (.shr ylike1_4 48) 32768) (by kernel_rfl) (by kernel_rfl) h
  (fun h => by_way (.le (.c 0) (.wrap .i64 ylike1_3)) (.ge (.wrap .i64 ylike1_3) 0) (.le (.wrap .i64 ylike1_3) (-1)) (by kernel_rfl) (by kernel_rfl) h
  (fun h => by_way (.lt (.wrap .i64 ylike1_3) (.c 65536)) (.le (.wrap .i64 ylike1_3) 65535) (.ge (.wrap .i64 ylike1_3) 65536) (by kernel_rfl) (by kernel_rfl) h
  (fun h => by_way (.eq ylike1_24 (.c 0)) (.is ylike1_24 0) (.ne ylike1_24 0) (by kernel_rfl) (by kernel_rfl) h
  (fun h => by_way (.eq ylike1_23 (.c 0)) (.is ylike1_23 0) (.ne ylike1_23 0) (by kernel_rfl) (by kernel_rfl) h
  (fun h => like1_42 val h)
  (fun h => like1_43 val h))
  (fun h => like1_44 val h))
  (fun h => like1_45 val h))
  (fun h => like1_46 val h))
  (fun h => like1_47 val h))
  (fun h => like1_48 val h))
  (fun h => like1_49 val h))
  (fun h => like1_50 val h))
  (fun h => like1_51 val h))
  (fun h => by_way ylike1_21 (.is (.wrap .i64 ylike1_3) 0) (.ne (.wrap .i64 ylike1_3) 0) (by kernel_rfl) (by kernel_rfl) h
  (fun h => by_way (.eq (.a 0) (.c 0)) (.is (.a 0) 0) (.ne (.a 0) 0) (by kernel_rfl) (by kernel_rfl) h
  (fun h => like1_52 val h)
  (fun h => by_way ylike1_9 (.at ylike1_9 true) (.at ylike1_9 false) (by kernel_rfl) (by kernel_rfl) h
  (fun h => by_way (.eq ylike1_7 (.c 0)) (.is ylike1_7 0) (.ne ylike1_7 0) (by kernel_rfl) (by kernel_rfl) h
  (fun h => by_way ylike1_10 (.is (.shr ylike1_4 48) 0) (.ne (.shr ylike1_4 48) 0) (by kernel_rfl) (by kernel_rfl) h
  (fun h => by_way (.lt (.a 0) (.c (-32768))) (.le (.a 0) (-32769)) (.ge (.a 0) (-32768)) (by kernel_rfl) (by kernel_rfl) h
  (fun h => like1_53 val h)
  (fun h => by_way (.le (.c 65536) (.a 0)) (.ge (.a 0) 65536) (.le (.a 0) 65535) (by kernel_rfl) (by kernel_rfl) h
  (fun h => like1_54 val h)
  (fun h => like1_55 val h)))
  (fun h => like1_56 val h))
  (fun h => like1_57 val h))
  (fun h => by_way (.lt (.a 0) (.c (-32768))) (.le (.a 0) (-32769)) (.ge (.a 0) (-32768)) (by kernel_rfl) (by kernel_rfl) h
  (fun h => like1_58 val h)
  (fun h => by_way (.le (.c 65536) (.a 0)) (.ge (.a 0) 65536) (.le (.a 0) 65535) (by kernel_rfl) (by kernel_rfl) h
  (fun h => like1_59 val h)
  (fun h => like1_60 val h)))))
  (fun h => like1_61 val h))

theorem like1Sub5 (val : Nat → Int) (h : Holds val [.at ylike1_12 true, .at ylike1_14 true, .at ylike1_13 false, .at ylike1_20 true, .is ylike1_2 1, .ge (.a 0) (-9223372036854775808), .le (.a 0) 9223372036854775807]) : LikeQ val :=
  by_way ylike1_27 (.at ylike1_27 true) (.at ylike1_27 false) (by kernel_rfl) (by kernel_rfl) h
  (fun h => by_way ylike1_26 (.at ylike1_26 true) (.at ylike1_26 false) (by kernel_rfl) (by kernel_rfl) h
  (fun h => by_way ylike1_25 (.at ylike1_25 true) (.at ylike1_25 false) (by kernel_rfl) (by kernel_rfl) h
  (fun h => by_way ylike1_19 (.at ylike1_19 true) (.at ylike1_19 false) (by kernel_rfl) (by kernel_rfl) h
  (fun h => by_way (.le (.c (-32768)) (.shr ylike1_4 48)) (.ge (.shr ylike1_4 48) (-32768)) (.le (.shr ylike1_4 48) (-32769)) (by kernel_rfl) (by kernel_rfl) h
  (fun h => by_way (.lt (.shr ylike1_4 48) (.c 32768)) (.le (.shr ylike1_4 48) 32767) (.ge (.shr ylike1_4 48) 32768) (by kernel_rfl) (by kernel_rfl) h
  (fun h => by_way (.le (.c 0) (.wrap .i64 ylike1_3)) (.ge (.wrap .i64 ylike1_3) 0) (.le (.wrap .i64 ylike1_3) (-1)) (by kernel_rfl) (by kernel_rfl) h
  (fun h => by_way (.lt (.wrap .i64 ylike1_3) (.c 65536)) (.le (.wrap .i64 ylike1_3) 65535) (.ge (.wrap .i64 ylike1_3) 65536) (by kernel_rfl) (by kernel_rfl) h
  (fun h => by_way (.eq ylike1_24 (.c 0)) (.is ylike1_24 0) (.ne ylike1_24 0) (by kernel_rfl) (by kernel_rfl) h
  (fun h => by_way (.eq ylike1_23 (.c 0)) (.is ylike1_23 0) (.ne ylike1_23 0) (by kernel_rfl) (by kernel_rfl) h
  (fun h => like1_32 val h)
  (fun h => like1_33 val h))
  (fun h => like1_34 val h))
  (fun h => like1_35 val h))
  (fun h => like1_36 val h))
  (fun h => like1_37 val h))
  (fun h => like1_38 val h))
  (fun h => like1_39 val h))
  (fun h => like1_40 val h))
  (fun h => like1_41 val h))
  (fun h => like1Sub6 val h)

theorem like1Sub4 (val : Nat → Int) (h : Holds val [.at ylike1_14 true, .at ylike1_13 false, .at ylike1_20 true, .is ylike1_2 1, .ge (.a 0) (-9223372036854775808), .le (.a 0) 9223372036854775807]) : LikeQ val :=
  by_way ylike1_12 (.at ylike1_12 true) (.at ylike1_12 false) (by kernel_rfl) (by kernel_rfl) h
  (fun h => like1Sub5 val h)
  (fun h => like1_62 val h)

theorem like1Sub8 (val : Nat → Int) (h : Holds val [.is (.shr ylike1_4 48) 0, .at ylike1_14 false, .at ylike1_13 false, .at ylike1_20 true, .is ylike1_2 1, .ge (.a 0) (-9223372036854775808), .le (.a 0) 9223372036854775807]) : LikeQ val :=
  by_way ylike1_27 (.at ylike1_27 true) (.at ylike1_27 false) (by kernel_rfl) (by kernel_rfl) h
  (fun h => by_way ylike1_26 (.at ylike1_26 true) (.at ylike1_26 false) (by kernel_rfl) (by kernel_rfl) h
  (fun h => by_way ylike1_21 (.is (.wrap .i64 ylike1_3) 0) (.ne (.wrap .i64 ylike1_3) 0) (by kernel_rfl) (by kernel_rfl) h
  (fun h => by_way (.eq (.a 0) (.c 0)) (.is (.a 0) 0) (.ne (.a 0) 0) (by kernel_rfl) (by kernel_rfl) h
  (fun h => like1_63 val h)
  (fun h => by_way (.lt (.a 0) (.c (-32768))) (.le (.a 0) (-32769)) (.ge (.a 0) (-32768)) (by kernel_rfl) (by kernel_rfl) h
  (fun h => like1_64 val h)
  (fun h => by_way (.le (.c 65536) (.a 0)) (.ge (.a 0) 65536) (.le (.a 0) 65535) (by kernel_rfl) (by kernel_rfl) h
  (fun h => like1_65 val h)
  (fun h => like1_66 val h))))
  (fun h => like1_67 val h))
  (fun h => like1_68 val h))
  (fun h => by_way ylike1_28 (.at ylike1_28 true) (.at ylike1_28 false) (by kernel_rfl) (by kernel_rfl) h
  (fun h => by_way ylike1_26 (.at ylike1_26 true) (.at ylike1_26 false) (by kernel_rfl) (by kernel_rfl) h
  (fun h => by_way ylike1_21 (.is (.wrap .i64 ylike1_3) 0) (.ne (.wrap .i64 ylike1_3) 0) (by kernel_rfl) (by kernel_rfl) h
  (fun h => by_way (.eq (.a 0) (.c 0)) (.is (.a 0) 0) (.ne (.a 0) 0) (by kernel_rfl) (by kernel_rfl) h
  (fun h => like1_69 val h)
  (fun h => by_way (.lt (.a 0) (.c (-32768))) (.le (.a 0) (-32769)) (.ge (.a 0) (-32768)) (by kernel_rfl) (by kernel_rfl) h
  (fun h => like1_70 val h)
  (fun h => by_way (.le (.c 65536) (.a 0)) (.ge (.a 0) 65536) (.le (.a 0) 65535) (by kernel_rfl) (by kernel_rfl) h
  (fun h => like1_71 val h)
  (fun h => like1_72 val h))))
  (fun h => like1_73 val h))
  (fun h => like1_74 val h))
  (fun h => by_way ylike1_21 (.is (.wrap .i64 ylike1_3) 0) (.ne (.wrap .i64 ylike1_3) 0) (by kernel_rfl) (by kernel_rfl) h
  (fun h => by_way (.eq (.a 0) (.c 0)) (.is (.a 0) 0) (.ne (.a 0) 0) (by kernel_rfl) (by kernel_rfl) h
  (fun h => like1_75 val h)
  (fun h => by_way (.lt (.a 0) (.c (-32768))) (.le (.a 0) (-32769)) (.ge (.a 0) (-32768)) (by kernel_rfl) (by kernel_rfl) h
  (fun h => like1_76 val h)
  (fun h => by_way (.le (.c 65536) (.a 0)) (.ge (.a 0) 65536) (.le (.a 0) 65535) (by kernel_rfl) (by kernel_rfl) h
  (fun h => like1_77 val h)
  (fun h => like1_78 val h))))
  (fun h => like1_79 val h)))

theorem like1Sub7 (val : Nat → Int) (h : Holds val [.at ylike1_14 false, .at ylike1_13 false, .at ylike1_20 true, .is ylike1_2 1, .ge (.a 0) (-9223372036854775808), .le (.a 0) 9223372036854775807]) : LikeQ val :=
  by_way (.eq (.c 0) (.shr ylike1_4 48)) (.is (.shr ylike1_4 48) 0) (.ne (.shr ylike1_4 48) 0) (by kernel_rfl) (by kernel_rfl) h
  (fun h => like1Sub8 val h)
  (fun h => like1_80 val h)

theorem like1Sub3 (val : Nat → Int) (h : Holds val [.at ylike1_13 false, .at ylike1_20 true, .is ylike1_2 1, .ge (.a 0) (-9223372036854775808), .le (.a 0) 9223372036854775807]) : LikeQ val :=
  by_way ylike1_14 (.at ylike1_14 true) (.at ylike1_14 false) (by kernel_rfl) (by kernel_rfl) h
  (fun h => like1Sub4 val h)
  (fun h => like1Sub7 val h)

theorem like1Sub11 (val : Nat → Int) (h : Holds val [.at ylike1_27 false, .at ylike1_12 true, .at ylike1_13 true, .at ylike1_9 true, .at ylike1_20 false, .is ylike1_2 1, .ge (.a 0) (-9223372036854775808), .le (.a 0) 9223372036854775807]) : LikeQ val :=
  by_way ylike1_28 (.at ylike1_28 true) (.at ylike1_28 false) (by kernel_rfl) (by kernel_rfl) h
  (fun h => by_way ylike1_26 (.at ylike1_26 true) (.at ylike1_26 false) (by kernel_rfl) (by kernel_rfl) h
  (fun h => by_way ylike1_25 (.at ylike1_25 true) (.at ylike1_25 false) (by kernel_rfl) (by kernel_rfl) h
  (fun h => by_way ylike1_19 (.at ylike1_19 true) (.at ylike1_19 false) (by kernel_rfl) (by kernel_rfl) h
  (fun h => by_way (.le (.c (-32768)) (.shr ylike1_4 48)) (.ge (.shr ylike1_4 48) (-32768)) (.le (.shr ylike1_4 48) (-32769)) (by kernel_rfl) (by kernel_rfl) h
  (fun h => by_way (.lt (.shr ylike1_4 48) (.c 32768)) (.le (.shr ylike1_4 48) 32767) (.ge (.shr ylike1_4 48) 32768) (by kernel_rfl) (by kernel_rfl) h
  (fun h => by_way (.le (.c 0) (.wrap .i64 ylike1_3)) (.ge (.wrap .i64 ylike1_3) 0) (.le (.wrap .i64 ylike1_3) (-1)) (by kernel_rfl) (by kernel_rfl) h
  (fun h => by_way (.lt (.wrap .i64 ylike1_3) (.c 65536)) (.le (.wrap .i64 ylike1_3) 65535) (.ge (.wrap .i64 ylike1_3) 65536) (by kernel_rfl) (by kernel_rfl) h
  (fun h => by_way (.eq ylike1_24 (.c 0)) (.is ylike1_24 0) (.ne ylike1_24 0) (by kernel_rfl) (by kernel_rfl) h
  (fun h => by_way (.eq ylike1_23 (.c 0)) (.is ylike1_23 0) (.ne ylike1_23 0) (by kernel_rfl) (by kernel_rfl) h
  (fun h => like1_91 val h)
  (fun h => like1_92 val h))
  (fun h => like1_93 val h))
  (fun h => like1_94 val h))
  (fun h => like1_95 val h))
  (fun h => like1_96 val h))
  (fun h => like1_97 val h))
  (fun h => like1_98 val h))
  (fun h => like1_99 val h))
  (fun h => like1_100 val h))
  (fun h => by_way ylike1_21 (.is (.wrap .i64 ylike1_3) 0) (.ne (.wrap .i64 ylike1_3) 0) (by kernel_rfl) (by kernel_rfl) h
  (fun h => by_way (.eq (.a 0) (.c 0)) (.is (.a 0) 0) (.ne (.a 0) 0) (by kernel_rfl) (by kernel_rfl) h
  (fun h => like1_101 val h)
  (fun h => by_way (.eq ylike1_7 (.c 0)) (.is ylike1_7 0) (.ne ylike1_7 0) (by kernel_rfl) (by kernel_rfl) h
  (fun h => by_way ylike1_10 (.is (.shr ylike1_4 48) 0) (.ne (.shr ylike1_4 48) 0) (by kernel_rfl) (by kernel_rfl) h
  (fun h => by_way (.lt (.a 0) (.c (-32768))) (.le (.a 0) (-32769)) (.ge (.a 0) (-32768)) (by kernel_rfl) (by kernel_rfl) h
  (fun h => like1_102 val h)
  (fun h => by_way (.le (.c 65536) (.a 0)) (.ge (.a 0) 65536) (.le (.a 0) 65535) (by kernel_rfl) (by kernel_rfl) h
  (fun h => like1_103 val h)
  (fun h => like1_104 val h)))
  (fun h => by_way ylike1_14 (.at ylike1_14 true) (.at ylike1_14 false) (by kernel_rfl) (by kernel_rfl) h
  (fun h => like1_105 val h)
  (fun h => like1_106 val h)))
  (fun h => like1_107 val h)))
  (fun h => like1_108 val h))

theorem like1Sub10 (val : Nat → Int) (h : Holds val [.at ylike1_12 true, .at ylike1_13 true, .at ylike1_9 true, .at ylike1_20 false, .is ylike1_2 1, .ge (.a 0) (-9223372036854775808), .le (.a 0) 9223372036854775807]) : LikeQ val :=
  by_way ylike1_27 (.at ylike1_27 true) (.at ylike1_27 false) (by kernel_rfl) (by kernel_rfl) h
  (fun h => by_way ylike1_26 (.at ylike1_26 true) (.at ylike1_26 false) (by kernel_rfl) (by kernel_rfl) h
  (fun h => by_way ylike1_25 (.at ylike1_25 true) (.at ylike1_25 false) (by kernel_rfl) (by kernel_rfl) h
  (fun h => by_way ylike1_19 (.at ylike1_19 true) (.at ylike1_19 false) (by kernel_rfl) (by kernel_rfl) h
  (fun h => by_way (.le (.c (-32768)) (.shr ylike1_4 48)) (.ge (.shr ylike1_4 48) (-32768)) (.le (.shr ylike1_4 48) (-32769)) (by kernel_rfl) (by kernel_rfl) h
  (fun h => by_way (.lt (.shr ylike1_4 48) (.c 32768)) (.le (.shr ylike1_4 48) 32767) (.ge (.shr ylike1_4 48) 32768) (by kernel_rfl) (by kernel_rfl) h
  (fun h => by_way (.le (.c 0) (.wrap .i64 ylike1_3)) (.ge (.wrap .i64 ylike1_3) 0) (.le (.wrap .i64 ylike1_3) (-1)) (by kernel_rfl) (by kernel_rfl) h
  (fun h => by_way (.lt (.wrap .i64 ylike1_3) (.c 65536)) (.le (.wrap .i64 ylike1_3) 65535) (.ge (.wrap .i64 ylike1_3) 65536) (by kernel_rfl) (by kernel_rfl) h
  (fun h => by_way (.eq ylike1_24 (.c 0)) (.is ylike1_24 0) (.ne ylike1_24 0) (by kernel_rfl) (by kernel_rfl) h
  (fun h => by_way (.eq ylike1_23 (.c 0)) (.is ylike1_23 0) (.ne ylike1_23 0) (by kernel_rfl) (by kernel_rfl) h
  (fun h => like1_81 val h)
  (fun h => like1_82 val h))
  (fun h => like1_83 val h))
  (fun h => like1_84 val h))
  (fun h => like1_85 val h))
  (fun h => like1_86 val h))
  (fun h => like1_87 val h))
  (fun h => like1_88 val h))
  (fun h => like1_89 val h))
  (fun h => like1_90 val h))
  (fun h => like1Sub11 val h)

theorem like1Sub9 (val : Nat → Int) (h : Holds val [.at ylike1_13 true, .at ylike1_9 true, .at ylike1_20 false, .is ylike1_2 1, .ge (.a 0) (-9223372036854775808), .le (.a 0) 9223372036854775807]) : LikeQ val :=
  by_way ylike1_12 (.at ylike1_12 true) (.at ylike1_12 false) (by kernel_rfl) (by kernel_rfl) h
  (fun h => like1Sub10 val h)
  (fun h => like1_109 val h)

theorem like1Sub15 (val : Nat → Int) (h : Holds val [.at ylike1_27 false, .at ylike1_12 true, .at ylike1_14 true, .at ylike1_13 false, .at ylike1_9 true, .at ylike1_20 false, .is ylike1_2 1, .ge (.a 0) (-9223372036854775808), .le (.a 0) 9223372036854775807]) : LikeQ val :=
  by_way ylike1_28 (.at ylike1_28 true) (.at ylike1_28 false) (by kernel_rfl) (by kernel_rfl) h
  (fun h => by_way ylike1_26 (.at ylike1_26 true) (.at ylike1_26 false) (by kernel_rfl) (by kernel_rfl) h
  (fun h => by_way ylike1_25 (.at ylike1_25 true) (.at ylike1_25 false) (by kernel_rfl) (by kernel_rfl) h
  (fun h => by_way ylike1_19 (.at ylike1_19 true) (.at ylike1_19 false) (by kernel_rfl) (by kernel_rfl) h
  (fun h => by_way (.le (.c (-32768)) (.shr ylike1_4 48)) (.ge (.shr ylike1_4 48) (-32768)) (.le (.shr ylike1_4 48) (-32769)) (by kernel_rfl) (by kernel_rfl) h
  (fun h => by_way (.lt (.shr ylike1_4 48) (.c 32768)) (.le (.shr ylike1_4 48) 32767) (.ge (.shr ylike1_4 48) 32768) (by kernel_rfl) (by kernel_rfl) h
  (fun h => by_way (.le (.c 0) (.wrap .i64 ylike1_3)) (.ge (.wrap .i64 ylike1_3) 0) (.le (.wrap .i64 ylike1_3) (-1)) (by kernel_rfl) (by kernel_rfl) h
  (fun h => by_way (.lt (.wrap .i64 ylike1_3) (.c 65536)) (.le (.wrap .i64 ylike1_3) 65535) (.ge (.wrap .i64 ylike1_3) 65536) (by kernel_rfl) (by kernel_rfl) h
  (fun h => by_way (.eq ylike1_24 (.c 0)) (.is ylike1_24 0) (.ne ylike1_24 0) (by kernel_rfl) (by kernel_rfl) h
  (fun h => by_way (.eq ylike1_23 (.c 0)) (.is ylike1_23 0) (.ne ylike1_23 0) (by kernel_rfl) (by kernel_rfl) h
  (fun h => like1_120 val h)
  (fun h => like1_121 val h))
  (fun h => like1_122 val h))
  (fun h => like1_123 val h))
  (fun h => like1_124 val h))
  (fun h => like1_125 val h))
  (fun h => like1_126 val h))
  (fun h => like1_127 val h))
  (fun h => like1_128 val h))
  (fun h => like1_129 val h))
  (fun h => by_way ylike1_21 (.is (.wrap .i64 ylike1_3) 0) (.ne (.wrap .i64 ylike1_3) 0) (by kernel_rfl) (by kernel_rfl) h
  (fun h => by_way (.eq (.a 0) (.c 0)) (.is (.a 0) 0) (.ne (.a 0) 0) (by kernel_rfl) (by kernel_rfl) h
  (fun h => like1_130 val h)
  (fun h => by_way (.eq ylike1_7 (.c 0)) (.is ylike1_7 0) (.ne ylike1_7 0) (by kernel_rfl) (by kernel_rfl) h
  (fun h => by_way ylike1_10 (.is (.shr ylike1_4 48) 0) (.ne (.shr ylike1_4 48) 0) (by kernel_rfl) (by kernel_rfl) h
  (fun h => by_way (.lt (.a 0) (.c (-32768))) (.le (.a 0) (-32769)) (.ge (.a 0) (-32768)) (by kernel_rfl) (by kernel_rfl) h
  (fun h => like1_131 val h)
  (fun h => by_way (.le (.c 65536) (.a 0)) (.ge (.a 0) 65536) (.le (.a 0) 65535) (by kernel_rfl) (by kernel_rfl) h
  (fun h => like1_132 val h)
  (fun h => like1_133 val h)))
  (fun h => like1_134 val h))
  (fun h => like1_135 val h)))
  (fun h => like1_136 val h))

theorem like1Sub14 (val : Nat → Int) (h : Holds val [.at ylike1_12 true, .at ylike1_14 true, .at ylike1_13 false, .at ylike1_9 true, .at ylike1_20 false, .is ylike1_2 1, .ge (.a 0) (-9223372036854775808), .le (.a 0) 9223372036854775807]) : LikeQ val :=
  by_way ylike1_27 (.at ylike1_27 true) (.at ylike1_27 false) (by kernel_rfl) (by kernel_rfl) h
  (fun h => by_way ylike1_26 (.at ylike1_26 true) (.at ylike1_26 false) (by kernel_rfl) (by kernel_rfl) h
  (fun h => by_way ylike1_25 (.at ylike1_25 true) (.at ylike1_25 false) (by kernel_rfl) (by kernel_rfl) h
  (fun h => by_way ylike1_19 (.at ylike1_19 true) (.at ylike1_19 false) (by kernel_rfl) (by kernel_rfl) h
  (fun h => by_way (.le (.c (-32768)) (.shr ylike1_4 48)) (.ge (.shr ylike1_4 48) (-32768)) (.le (.shr ylike1_4 48) (-32769)) (by kernel_rfl) (by kernel_rfl) h
  (fun h => by_way (.lt (.shr ylike1_4 48) (.c 32768)) (.le (.shr ylike1_4 48) 32767) (.ge (.shr ylike1_4 48) 32768) (by kernel_rfl) (by kernel_rfl) h
  (fun h => by_way (.le (.c 0) (.wrap .i64 ylike1_3)) (.ge (.wrap .i64 ylike1_3) 0) (.le (.wrap .i64 ylike1_3) (-1)) (by kernel_rfl) (by kernel_rfl) h
  (fun h => by_way (.lt (.wrap .i64 ylike1_3) (.c 65536)) (.le (.wrap .i64 ylike1_3) 65535) (.ge (.wrap .i64 ylike1_3) 65536) (by kernel_rfl) (by kernel_rfl) h
  (fun h => by_way (.eq ylike1_24 (.c 0)) (.is ylike1_24 0) (.ne ylike1_24 0) (by kernel_rfl) (by kernel_rfl) h
  (fun h => by_way (.eq ylike1_23 (.c 0)) (.is ylike1_23 0) (.ne ylike1_23 0) (by kernel_rfl) (by kernel_rfl) h
  (fun h => like1_110 val h)
  (fun h => like1_111 val h))
  (fun h => like1_112 val h))
  (fun h => like1_113 val h))
  (fun h => like1_114 val h))
  (fun h => like1_115 val h))
  (fun h => like1_116 val h))
  (fun h => like1_117 val h))
  (fun h => like1_118 val h))
  (fun h => like1_119 val h))
  (fun h => like1Sub15 val h)

theorem like1Sub13 (val : Nat → Int) (h : Holds val [.at ylike1_14 true, .at ylike1_13 false, .at ylike1_9 true, .at ylike1_20 false, .is ylike1_2 1, .ge (.a 0) (-9223372036854775808), .le (.a 0) 9223372036854775807]) : LikeQ val :=
  by_way ylike1_12 (.at ylike1_12 true) (.at ylike1_12 false) (by kernel_rfl) (by kernel_rfl) h
  (fun h => like1Sub14 val h)
  (fun h => like1_137 val h)

theorem like1Sub12 (val : Nat → Int) (h : Holds val [.at ylike1_13 false, .at ylike1_9 true, .at ylike1_20 false, .is ylike1_2 1, .ge (.a 0) (-9223372036854775808), .le (.a 0) 9223372036854775807]) : LikeQ val :=
  by_way ylike1_14 (.at ylike1_14 true) (.at ylike1_14 false) (by kernel_rfl) (by kernel_rfl) h
  (fun h => like1Sub13 val h)
  (fun h => by_way (.eq (.c 0) (.shr ylike1_4 48)) (.is (.shr ylike1_4 48) 0) (.ne (.shr ylike1_4 48) 0) (by kernel_rfl) (by kernel_rfl) h
  (fun h => by_way (.eq (.a 0) (.c 0)) (.is (.a 0) 0) (.ne (.a 0) 0) (by kernel_rfl) (by kernel_rfl) h
  (fun h => like1_138 val h)
  (fun h => by_way (.lt (.a 0) (.c (-32768))) (.le (.a 0) (-32769)) (.ge (.a 0) (-32768)) (by kernel_rfl) (by kernel_rfl) h
  (fun h => like1_139 val h)
  (fun h => by_way (.le (.c 65536) (.a 0)) (.ge (.a 0) 65536) (.le (.a 0) 65535) (by kernel_rfl) (by kernel_rfl) h
  (fun h => like1_140 val h)
  (fun h => like1_141 val h))))
  (fun h => like1_142 val h))

theorem like1 (val : Nat → Int) (h : Holds val [.is ylike1_2 1, .ge (.a 0) (-9223372036854775808), .le (.a 0) 9223372036854775807]) : LikeQ val :=
  by_way ylike1_20 (.at ylike1_20 true) (.at ylike1_20 false) (by kernel_rfl) (by kernel_rfl) h
  (fun h => by_way ylike1_13 (.at ylike1_13 true) (.at ylike1_13 false) (by kernel_rfl) (by kernel_rfl) h
  (fun h => like1Sub0 val h)
  (fun h => like1Sub3 val h))
  (fun h => by_way ylike1_9 (.at ylike1_9 true) (.at ylike1_9 false) (by kernel_rfl) (by kernel_rfl) h
  (fun h => by_way ylike1_13 (.at ylike1_13 true) (.at ylike1_13 false) (by kernel_rfl) (by kernel_rfl) h
  (fun h => like1Sub9 val h)
  (fun h => like1Sub12 val h))
  (fun h => by_way (.lt (.a 0) (.c (-32768))) (.le (.a 0) (-32769)) (.ge (.a 0) (-32768)) (by kernel_rfl) (by kernel_rfl) h
  (fun h => like1_143 val h)
  (fun h => by_way (.le (.c 65536) (.a 0)) (.ge (.a 0) 65536) (.le (.a 0) 65535) (by kernel_rfl) (by kernel_rfl) h
  (fun h => like1_144 val h)
  (fun h => like1_145 val h))))

end Go.Proofs.Ytclhjdddakmafaa.Tab
