/-
  The law, part 0.
-/
import Derived.Test.YtlggmhchgicjkaaLawH
namespace Go.Proofs.Ytlggmhchgicjkaa.Tab
open Go.Sim
set_option maxRecDepth 100000

theorem lawt4_0 (val : Nat → Int) (h : Holds val [.is (.a 28) 0, .at (.eq (.a 20) (.a 0)) true, .is (.a 11) 4, .is (.a 7) 0, .ge (.a 11) 0, .le (.a 11) 9, .ge (.a 13) 0, .le (.a 13) 9, .ge (.a 1) 4, .ne (.a 40) 3, .ne (.a 80) 3, .ne (.a 120) 3, .ne (.a 160) 3]) : LwCl Try.prog (outsN 4) 3 [fA, instB 2 4] (lawTt 4 0 true) val := lwN (by kernel_rfl) (by kernel_rfl) h (fun _ _ _ => by kernel_rfl)

theorem lawf4_1 (val : Nat → Int) (h : Holds val [.is (.a 7) 0, .ge (.a 11) 0, .le (.a 11) 9, .ge (.a 13) 0, .le (.a 13) 9, .ge (.a 1) 4, .is (.a 40) 3, .ne (.a 80) 3, .ne (.a 120) 3, .ne (.a 160) 3]) : LwCl Try.prog (outsN 4) 3 [fA, instB 2 4] (lawTt 4 1 false) val := lwN (by kernel_rfl) (by kernel_rfl) h (fun _ _ _ => by kernel_rfl)

theorem lawt4_3 (val : Nat → Int) (h : Holds val [.is (.a 28) 0, .at (.eq (.a 20) (.a 0)) true, .is (.a 11) 4, .is (.a 7) 0, .ge (.a 11) 0, .le (.a 11) 9, .ge (.a 13) 0, .le (.a 13) 9, .ge (.a 1) 4, .is (.a 40) 3, .is (.a 80) 3, .ne (.a 120) 3, .ne (.a 160) 3]) : LwCl Try.prog (outsN 4) 3 [fA, instB 2 4] (lawTt 4 3 true) val := lwN (by kernel_rfl) (by kernel_rfl) h (fun _ _ _ => by kernel_rfl)

theorem lawf4_4 (val : Nat → Int) (h : Holds val [.is (.a 7) 0, .ge (.a 11) 0, .le (.a 11) 9, .ge (.a 13) 0, .le (.a 13) 9, .ge (.a 1) 4, .ne (.a 40) 3, .ne (.a 80) 3, .is (.a 120) 3, .ne (.a 160) 3]) : LwCl Try.prog (outsN 4) 3 [fA, instB 2 4] (lawTt 4 4 false) val := lwN (by kernel_rfl) (by kernel_rfl) h (fun _ _ _ => by kernel_rfl)

theorem lawt4_6 (val : Nat → Int) (h : Holds val [.is (.a 28) 0, .at (.eq (.a 20) (.a 0)) true, .is (.a 11) 4, .is (.a 7) 0, .ge (.a 11) 0, .le (.a 11) 9, .ge (.a 13) 0, .le (.a 13) 9, .ge (.a 1) 4, .ne (.a 40) 3, .is (.a 80) 3, .is (.a 120) 3, .ne (.a 160) 3]) : LwCl Try.prog (outsN 4) 3 [fA, instB 2 4] (lawTt 4 6 true) val := lwN (by kernel_rfl) (by kernel_rfl) h (fun _ _ _ => by kernel_rfl)

theorem lawf4_7 (val : Nat → Int) (h : Holds val [.is (.a 7) 0, .ge (.a 11) 0, .le (.a 11) 9, .ge (.a 13) 0, .le (.a 13) 9, .ge (.a 1) 4, .is (.a 40) 3, .is (.a 80) 3, .is (.a 120) 3, .ne (.a 160) 3]) : LwCl Try.prog (outsN 4) 3 [fA, instB 2 4] (lawTt 4 7 false) val := lwN (by kernel_rfl) (by kernel_rfl) h (fun _ _ _ => by kernel_rfl)

theorem lawt4_9 (val : Nat → Int) (h : Holds val [.is (.a 28) 0, .at (.eq (.a 20) (.a 0)) true, .is (.a 11) 4, .is (.a 7) 0, .ge (.a 11) 0, .le (.a 11) 9, .ge (.a 13) 0, .le (.a 13) 9, .ge (.a 1) 4, .is (.a 40) 3, .ne (.a 80) 3, .ne (.a 120) 3, .is (.a 160) 3]) : LwCl Try.prog (outsN 4) 3 [fA, instB 2 4] (lawTt 4 9 true) val := lwN (by kernel_rfl) (by kernel_rfl) h (fun _ _ _ => by kernel_rfl)

theorem lawf4_10 (val : Nat → Int) (h : Holds val [.is (.a 7) 0, .ge (.a 11) 0, .le (.a 11) 9, .ge (.a 13) 0, .le (.a 13) 9, .ge (.a 1) 4, .ne (.a 40) 3, .is (.a 80) 3, .ne (.a 120) 3, .is (.a 160) 3]) : LwCl Try.prog (outsN 4) 3 [fA, instB 2 4] (lawTt 4 10 false) val := lwN (by kernel_rfl) (by kernel_rfl) h (fun _ _ _ => by kernel_rfl)

theorem lawt4_12 (val : Nat → Int) (h : Holds val [.is (.a 28) 0, .at (.eq (.a 20) (.a 0)) true, .is (.a 11) 4, .is (.a 7) 0, .ge (.a 11) 0, .le (.a 11) 9, .ge (.a 13) 0, .le (.a 13) 9, .ge (.a 1) 4, .ne (.a 40) 3, .ne (.a 80) 3, .is (.a 120) 3, .is (.a 160) 3]) : LwCl Try.prog (outsN 4) 3 [fA, instB 2 4] (lawTt 4 12 true) val := lwN (by kernel_rfl) (by kernel_rfl) h (fun _ _ _ => by kernel_rfl)

theorem lawf4_13 (val : Nat → Int) (h : Holds val [.is (.a 7) 0, .ge (.a 11) 0, .le (.a 11) 9, .ge (.a 13) 0, .le (.a 13) 9, .ge (.a 1) 4, .is (.a 40) 3, .ne (.a 80) 3, .is (.a 120) 3, .is (.a 160) 3]) : LwCl Try.prog (outsN 4) 3 [fA, instB 2 4] (lawTt 4 13 false) val := lwN (by kernel_rfl) (by kernel_rfl) h (fun _ _ _ => by kernel_rfl)

theorem lawt4_15 (val : Nat → Int) (h : Holds val [.is (.a 28) 0, .at (.eq (.a 20) (.a 0)) true, .is (.a 11) 4, .is (.a 7) 0, .ge (.a 11) 0, .le (.a 11) 9, .ge (.a 13) 0, .le (.a 13) 9, .ge (.a 1) 4, .is (.a 40) 3, .is (.a 80) 3, .is (.a 120) 3, .is (.a 160) 3]) : LwCl Try.prog (outsN 4) 3 [fA, instB 2 4] (lawTt 4 15 true) val := lwN (by kernel_rfl) (by kernel_rfl) h (fun _ _ _ => by kernel_rfl)

theorem lawt3_1 (val : Nat → Int) (h : Holds val [.is (.a 28) 0, .at (.eq (.a 20) (.a 0)) true, .is (.a 11) 3, .is (.a 7) 0, .ge (.a 11) 0, .le (.a 11) 9, .ge (.a 13) 0, .le (.a 13) 9, .ge (.a 1) 3, .is (.a 40) 3, .ne (.a 80) 3, .ne (.a 120) 3]) : LwCl Try.prog (outsN 3) 3 [fA, instB 2 3] (lawTt 3 1 true) val := lwN (by kernel_rfl) (by kernel_rfl) h (fun _ _ _ => by kernel_rfl)

theorem lawf3_2 (val : Nat → Int) (h : Holds val [.is (.a 7) 0, .ge (.a 11) 0, .le (.a 11) 9, .ge (.a 13) 0, .le (.a 13) 9, .ge (.a 1) 3, .ne (.a 40) 3, .is (.a 80) 3, .ne (.a 120) 3]) : LwCl Try.prog (outsN 3) 3 [fA, instB 2 3] (lawTt 3 2 false) val := lwN (by kernel_rfl) (by kernel_rfl) h (fun _ _ _ => by kernel_rfl)

theorem lawt3_4 (val : Nat → Int) (h : Holds val [.is (.a 28) 0, .at (.eq (.a 20) (.a 0)) true, .is (.a 11) 3, .is (.a 7) 0, .ge (.a 11) 0, .le (.a 11) 9, .ge (.a 13) 0, .le (.a 13) 9, .ge (.a 1) 3, .ne (.a 40) 3, .ne (.a 80) 3, .is (.a 120) 3]) : LwCl Try.prog (outsN 3) 3 [fA, instB 2 3] (lawTt 3 4 true) val := lwN (by kernel_rfl) (by kernel_rfl) h (fun _ _ _ => by kernel_rfl)

theorem lawf3_5 (val : Nat → Int) (h : Holds val [.is (.a 7) 0, .ge (.a 11) 0, .le (.a 11) 9, .ge (.a 13) 0, .le (.a 13) 9, .ge (.a 1) 3, .is (.a 40) 3, .ne (.a 80) 3, .is (.a 120) 3]) : LwCl Try.prog (outsN 3) 3 [fA, instB 2 3] (lawTt 3 5 false) val := lwN (by kernel_rfl) (by kernel_rfl) h (fun _ _ _ => by kernel_rfl)

theorem lawt3_7 (val : Nat → Int) (h : Holds val [.is (.a 28) 0, .at (.eq (.a 20) (.a 0)) true, .is (.a 11) 3, .is (.a 7) 0, .ge (.a 11) 0, .le (.a 11) 9, .ge (.a 13) 0, .le (.a 13) 9, .ge (.a 1) 3, .is (.a 40) 3, .is (.a 80) 3, .is (.a 120) 3]) : LwCl Try.prog (outsN 3) 3 [fA, instB 2 3] (lawTt 3 7 true) val := lwN (by kernel_rfl) (by kernel_rfl) h (fun _ _ _ => by kernel_rfl)

theorem lawf2_0 (val : Nat → Int) (h : Holds val [.is (.a 7) 0, .ge (.a 11) 0, .le (.a 11) 9, .ge (.a 13) 0, .le (.a 13) 9, .ge (.a 1) 2, .ne (.a 40) 3, .ne (.a 80) 3]) : LwCl Try.prog (outsN 2) 3 [fA, instB 2 2] (lawTt 2 0 false) val := lwN (by kernel_rfl) (by kernel_rfl) h (fun _ _ _ => by kernel_rfl)

theorem lawt2_2 (val : Nat → Int) (h : Holds val [.is (.a 28) 0, .at (.eq (.a 20) (.a 0)) true, .is (.a 11) 2, .is (.a 7) 0, .ge (.a 11) 0, .le (.a 11) 9, .ge (.a 13) 0, .le (.a 13) 9, .ge (.a 1) 2, .ne (.a 40) 3, .is (.a 80) 3]) : LwCl Try.prog (outsN 2) 3 [fA, instB 2 2] (lawTt 2 2 true) val := lwN (by kernel_rfl) (by kernel_rfl) h (fun _ _ _ => by kernel_rfl)

theorem lawf2_3 (val : Nat → Int) (h : Holds val [.is (.a 7) 0, .ge (.a 11) 0, .le (.a 11) 9, .ge (.a 13) 0, .le (.a 13) 9, .ge (.a 1) 2, .is (.a 40) 3, .is (.a 80) 3]) : LwCl Try.prog (outsN 2) 3 [fA, instB 2 2] (lawTt 2 3 false) val := lwN (by kernel_rfl) (by kernel_rfl) h (fun _ _ _ => by kernel_rfl)

theorem lawf1_1 (val : Nat → Int) (h : Holds val [.is (.a 7) 0, .ge (.a 11) 0, .le (.a 11) 9, .ge (.a 13) 0, .le (.a 13) 9, .ge (.a 1) 1, .is (.a 40) 3]) : LwCl Try.prog (outsN 1) 3 [fA, instB 2 1] (lawTt 1 1 false) val := lwN (by kernel_rfl) (by kernel_rfl) h (fun _ _ _ => by kernel_rfl)

theorem lawe3 (val : Nat → Int) (h : Holds val [.ne (.a 7) 0, .ge (.a 11) 0, .le (.a 11) 9, .ge (.a 13) 0, .le (.a 13) 9, .ge (.a 1) 3]) : LwCl Try.prog (outsN 3) 3 [fA, instB 2 3] (lawTe 3) val := lwN (by kernel_rfl) (by kernel_rfl) h (fun _ _ _ => by kernel_rfl)

theorem lawe6 (val : Nat → Int) (h : Holds val [.ne (.a 7) 0, .ge (.a 11) 0, .le (.a 11) 9, .ge (.a 13) 0, .le (.a 13) 9, .ge (.a 1) 6]) : LwCl Try.prog (outsN 6) 3 [fA, instB 2 6] (lawTe 6) val := lwN (by kernel_rfl) (by kernel_rfl) h (fun _ _ _ => by kernel_rfl)

theorem lawe9 (val : Nat → Int) (h : Holds val [.ne (.a 7) 0, .ge (.a 11) 0, .le (.a 11) 9, .ge (.a 13) 0, .le (.a 13) 9, .ge (.a 1) 9]) : LwCl Try.prog (outsN 9) 3 [fA, instB 2 9] (lawTe 9) val := lwN (by kernel_rfl) (by kernel_rfl) h (fun _ _ _ => by kernel_rfl)

theorem lawf0 (val : Nat → Int) (h : Holds val [.is (.a 7) 0, .ge (.a 11) 0, .le (.a 11) 9, .ge (.a 13) 0, .le (.a 13) 9, .is (.a 38) 0]) : LwCl Try.prog outsF 3 [fA, instE] (lawT0 fA outsF false false) val := lwG (by kernel_rfl) (by simp [wfVs, wfV]) (by kernel_rfl) h (fun _ _ _ => by kernel_rfl)

theorem lawf0z (val : Nat → Int) (h : Holds val [.is (.a 7) 0, .is (.a 11) 0, .is (.a 13) 0, .is (.a 38) 0]) : LwCl Try.prog [] 3 [fZ, instE] (lawT0 fZ [] false false) val := lwG (by kernel_rfl) (by simp [wfVs, wfV]) (by kernel_rfl) h (fun _ _ _ => by kernel_rfl)

theorem big3 (val : Nat → Int) (h : Holds val [.ge (.a 11) 0, .le (.a 11) 9, .ge (.a 13) 0, .le (.a 13) 9, .ge (.a 38) 10]) : LwCl Try.prog [] 3 [fZ, instE] T_big1 val := lwG (by kernel_rfl) (by simp [wfVs, wfV]) (by kernel_rfl) h (fun _ _ _ => by kernel_rfl)

end Go.Proofs.Ytlggmhchgicjkaa.Tab
