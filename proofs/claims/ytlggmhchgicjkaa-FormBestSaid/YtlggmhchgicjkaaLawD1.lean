/-
  The law, part 1.
-/
import Derived.Test.YtlggmhchgicjkaaLawH
namespace Go.Proofs.Ytlggmhchgicjkaa.Tab
open Go.Sim
set_option maxRecDepth 100000

theorem lawf4_0 (val : Nat → Int) (h : Holds val [.is (.a 7) 0, .ge (.a 11) 0, .le (.a 11) 9, .ge (.a 13) 0, .le (.a 13) 9, .ge (.a 1) 4, .ne (.a 40) 3, .ne (.a 80) 3, .ne (.a 120) 3, .ne (.a 160) 3]) : LwCl Try.prog (outsN 4) 3 [fA, instB 2 4] (lawTt 4 0 false) val := lwN (by kernel_rfl) (by kernel_rfl) h (fun _ _ _ => by kernel_rfl)

theorem lawt4_2 (val : Nat → Int) (h : Holds val [.is (.a 28) 0, .at (.eq (.a 20) (.a 0)) true, .is (.a 11) 4, .is (.a 7) 0, .ge (.a 11) 0, .le (.a 11) 9, .ge (.a 13) 0, .le (.a 13) 9, .ge (.a 1) 4, .ne (.a 40) 3, .is (.a 80) 3, .ne (.a 120) 3, .ne (.a 160) 3]) : LwCl Try.prog (outsN 4) 3 [fA, instB 2 4] (lawTt 4 2 true) val := lwN (by kernel_rfl) (by kernel_rfl) h (fun _ _ _ => by kernel_rfl)

theorem lawf4_3 (val : Nat → Int) (h : Holds val [.is (.a 7) 0, .ge (.a 11) 0, .le (.a 11) 9, .ge (.a 13) 0, .le (.a 13) 9, .ge (.a 1) 4, .is (.a 40) 3, .is (.a 80) 3, .ne (.a 120) 3, .ne (.a 160) 3]) : LwCl Try.prog (outsN 4) 3 [fA, instB 2 4] (lawTt 4 3 false) val := lwN (by kernel_rfl) (by kernel_rfl) h (fun _ _ _ => by kernel_rfl)

theorem lawt4_5 (val : Nat → Int) (h : Holds val [.is (.a 28) 0, .at (.eq (.a 20) (.a 0)) true, .is (.a 11) 4, .is (.a 7) 0, .ge (.a 11) 0, .le (.a 11) 9, .ge (.a 13) 0, .le (.a 13) 9, .ge (.a 1) 4, .is (.a 40) 3, .ne (.a 80) 3, .is (.a 120) 3, .ne (.a 160) 3]) : LwCl Try.prog (outsN 4) 3 [fA, instB 2 4] (lawTt 4 5 true) val := lwN (by kernel_rfl) (by kernel_rfl) h (fun _ _ _ => by kernel_rfl)

theorem lawf4_6 (val : Nat → Int) (h : Holds val [.is (.a 7) 0, .ge (.a 11) 0, .le (.a 11) 9, .ge (.a 13) 0, .le (.a 13) 9, .ge (.a 1) 4, .ne (.a 40) 3, .is (.a 80) 3, .is (.a 120) 3, .ne (.a 160) 3]) : LwCl Try.prog (outsN 4) 3 [fA, instB 2 4] (lawTt 4 6 false) val := lwN (by kernel_rfl) (by kernel_rfl) h (fun _ _ _ => by kernel_rfl)

theorem lawt4_8 (val : Nat → Int) (h : Holds val [.is (.a 28) 0, .at (.eq (.a 20) (.a 0)) true, .is (.a 11) 4, .is (.a 7) 0, .ge (.a 11) 0, .le (.a 11) 9, .ge (.a 13) 0, .le (.a 13) 9, .ge (.a 1) 4, .ne (.a 40) 3, .ne (.a 80) 3, .ne (.a 120) 3, .is (.a 160) 3]) : LwCl Try.prog (outsN 4) 3 [fA, instB 2 4] (lawTt 4 8 true) val := lwN (by kernel_rfl) (by kernel_rfl) h (fun _ _ _ => by kernel_rfl)

theorem lawf4_9 (val : Nat → Int) (h : Holds val [.is (.a 7) 0, .ge (.a 11) 0, .le (.a 11) 9, .ge (.a 13) 0, .le (.a 13) 9, .ge (.a 1) 4, .is (.a 40) 3, .ne (.a 80) 3, .ne (.a 120) 3, .is (.a 160) 3]) : LwCl Try.prog (outsN 4) 3 [fA, instB 2 4] (lawTt 4 9 false) val := lwN (by kernel_rfl) (by kernel_rfl) h (fun _ _ _ => by kernel_rfl)

theorem lawt4_11 (val : Nat → Int) (h : Holds val [.is (.a 28) 0, .at (.eq (.a 20) (.a 0)) true, .is (.a 11) 4, .is (.a 7) 0, .ge (.a 11) 0, .le (.a 11) 9, .ge (.a 13) 0, .le (.a 13) 9, .ge (.a 1) 4, .is (.a 40) 3, .is (.a 80) 3, .ne (.a 120) 3, .is (.a 160) 3]) : LwCl Try.prog (outsN 4) 3 [fA, instB 2 4] (lawTt 4 11 true) val := lwN (by kernel_rfl) (by kernel_rfl) h (fun _ _ _ => by kernel_rfl)

theorem lawf4_12 (val : Nat → Int) (h : Holds val [.is (.a 7) 0, .ge (.a 11) 0, .le (.a 11) 9, .ge (.a 13) 0, .le (.a 13) 9, .ge (.a 1) 4, .ne (.a 40) 3, .ne (.a 80) 3, .is (.a 120) 3, .is (.a 160) 3]) : LwCl Try.prog (outsN 4) 3 [fA, instB 2 4] (lawTt 4 12 false) val := lwN (by kernel_rfl) (by kernel_rfl) h (fun _ _ _ => by kernel_rfl)

theorem lawt4_14 (val : Nat → Int) (h : Holds val [.is (.a 28) 0, .at (.eq (.a 20) (.a 0)) true, .is (.a 11) 4, .is (.a 7) 0, .ge (.a 11) 0, .le (.a 11) 9, .ge (.a 13) 0, .le (.a 13) 9, .ge (.a 1) 4, .ne (.a 40) 3, .is (.a 80) 3, .is (.a 120) 3, .is (.a 160) 3]) : LwCl Try.prog (outsN 4) 3 [fA, instB 2 4] (lawTt 4 14 true) val := lwN (by kernel_rfl) (by kernel_rfl) h (fun _ _ _ => by kernel_rfl)

theorem lawf4_15 (val : Nat → Int) (h : Holds val [.is (.a 7) 0, .ge (.a 11) 0, .le (.a 11) 9, .ge (.a 13) 0, .le (.a 13) 9, .ge (.a 1) 4, .is (.a 40) 3, .is (.a 80) 3, .is (.a 120) 3, .is (.a 160) 3]) : LwCl Try.prog (outsN 4) 3 [fA, instB 2 4] (lawTt 4 15 false) val := lwN (by kernel_rfl) (by kernel_rfl) h (fun _ _ _ => by kernel_rfl)

theorem lawf3_1 (val : Nat → Int) (h : Holds val [.is (.a 7) 0, .ge (.a 11) 0, .le (.a 11) 9, .ge (.a 13) 0, .le (.a 13) 9, .ge (.a 1) 3, .is (.a 40) 3, .ne (.a 80) 3, .ne (.a 120) 3]) : LwCl Try.prog (outsN 3) 3 [fA, instB 2 3] (lawTt 3 1 false) val := lwN (by kernel_rfl) (by kernel_rfl) h (fun _ _ _ => by kernel_rfl)

theorem lawt3_3 (val : Nat → Int) (h : Holds val [.is (.a 28) 0, .at (.eq (.a 20) (.a 0)) true, .is (.a 11) 3, .is (.a 7) 0, .ge (.a 11) 0, .le (.a 11) 9, .ge (.a 13) 0, .le (.a 13) 9, .ge (.a 1) 3, .is (.a 40) 3, .is (.a 80) 3, .ne (.a 120) 3]) : LwCl Try.prog (outsN 3) 3 [fA, instB 2 3] (lawTt 3 3 true) val := lwN (by kernel_rfl) (by kernel_rfl) h (fun _ _ _ => by kernel_rfl)

theorem lawf3_4 (val : Nat → Int) (h : Holds val [.is (.a 7) 0, .ge (.a 11) 0, .le (.a 11) 9, .ge (.a 13) 0, .le (.a 13) 9, .ge (.a 1) 3, .ne (.a 40) 3, .ne (.a 80) 3, .is (.a 120) 3]) : LwCl Try.prog (outsN 3) 3 [fA, instB 2 3] (lawTt 3 4 false) val := lwN (by kernel_rfl) (by kernel_rfl) h (fun _ _ _ => by kernel_rfl)

theorem lawt3_6 (val : Nat → Int) (h : Holds val [.is (.a 28) 0, .at (.eq (.a 20) (.a 0)) true, .is (.a 11) 3, .is (.a 7) 0, .ge (.a 11) 0, .le (.a 11) 9, .ge (.a 13) 0, .le (.a 13) 9, .ge (.a 1) 3, .ne (.a 40) 3, .is (.a 80) 3, .is (.a 120) 3]) : LwCl Try.prog (outsN 3) 3 [fA, instB 2 3] (lawTt 3 6 true) val := lwN (by kernel_rfl) (by kernel_rfl) h (fun _ _ _ => by kernel_rfl)

theorem lawf3_7 (val : Nat → Int) (h : Holds val [.is (.a 7) 0, .ge (.a 11) 0, .le (.a 11) 9, .ge (.a 13) 0, .le (.a 13) 9, .ge (.a 1) 3, .is (.a 40) 3, .is (.a 80) 3, .is (.a 120) 3]) : LwCl Try.prog (outsN 3) 3 [fA, instB 2 3] (lawTt 3 7 false) val := lwN (by kernel_rfl) (by kernel_rfl) h (fun _ _ _ => by kernel_rfl)

theorem lawt2_1 (val : Nat → Int) (h : Holds val [.is (.a 28) 0, .at (.eq (.a 20) (.a 0)) true, .is (.a 11) 2, .is (.a 7) 0, .ge (.a 11) 0, .le (.a 11) 9, .ge (.a 13) 0, .le (.a 13) 9, .ge (.a 1) 2, .is (.a 40) 3, .ne (.a 80) 3]) : LwCl Try.prog (outsN 2) 3 [fA, instB 2 2] (lawTt 2 1 true) val := lwN (by kernel_rfl) (by kernel_rfl) h (fun _ _ _ => by kernel_rfl)

theorem lawf2_2 (val : Nat → Int) (h : Holds val [.is (.a 7) 0, .ge (.a 11) 0, .le (.a 11) 9, .ge (.a 13) 0, .le (.a 13) 9, .ge (.a 1) 2, .ne (.a 40) 3, .is (.a 80) 3]) : LwCl Try.prog (outsN 2) 3 [fA, instB 2 2] (lawTt 2 2 false) val := lwN (by kernel_rfl) (by kernel_rfl) h (fun _ _ _ => by kernel_rfl)

theorem lawt1_0 (val : Nat → Int) (h : Holds val [.is (.a 28) 0, .at (.eq (.a 20) (.a 0)) true, .is (.a 11) 1, .is (.a 7) 0, .ge (.a 11) 0, .le (.a 11) 9, .ge (.a 13) 0, .le (.a 13) 9, .ge (.a 1) 1, .ne (.a 40) 3]) : LwCl Try.prog (outsN 1) 3 [fA, instB 2 1] (lawTt 1 0 true) val := lwN (by kernel_rfl) (by kernel_rfl) h (fun _ _ _ => by kernel_rfl)

theorem lawf1_0 (val : Nat → Int) (h : Holds val [.is (.a 7) 0, .ge (.a 11) 0, .le (.a 11) 9, .ge (.a 13) 0, .le (.a 13) 9, .ge (.a 1) 1, .ne (.a 40) 3]) : LwCl Try.prog (outsN 1) 3 [fA, instB 2 1] (lawTt 1 0 false) val := lwN (by kernel_rfl) (by kernel_rfl) h (fun _ _ _ => by kernel_rfl)

theorem lawe1 (val : Nat → Int) (h : Holds val [.ne (.a 7) 0, .ge (.a 11) 0, .le (.a 11) 9, .ge (.a 13) 0, .le (.a 13) 9, .ge (.a 1) 1]) : LwCl Try.prog (outsN 1) 3 [fA, instB 2 1] (lawTe 1) val := lwN (by kernel_rfl) (by kernel_rfl) h (fun _ _ _ => by kernel_rfl)

theorem lawe4 (val : Nat → Int) (h : Holds val [.ne (.a 7) 0, .ge (.a 11) 0, .le (.a 11) 9, .ge (.a 13) 0, .le (.a 13) 9, .ge (.a 1) 4]) : LwCl Try.prog (outsN 4) 3 [fA, instB 2 4] (lawTe 4) val := lwN (by kernel_rfl) (by kernel_rfl) h (fun _ _ _ => by kernel_rfl)

theorem lawe7 (val : Nat → Int) (h : Holds val [.ne (.a 7) 0, .ge (.a 11) 0, .le (.a 11) 9, .ge (.a 13) 0, .le (.a 13) 9, .ge (.a 1) 7]) : LwCl Try.prog (outsN 7) 3 [fA, instB 2 7] (lawTe 7) val := lwN (by kernel_rfl) (by kernel_rfl) h (fun _ _ _ => by kernel_rfl)

theorem lawe0 (val : Nat → Int) (h : Holds val [.ne (.a 7) 0, .ge (.a 11) 0, .le (.a 11) 9, .ge (.a 13) 0, .le (.a 13) 9, .is (.a 38) 0]) : LwCl Try.prog outsF 3 [fA, instE] (lawT0 fA outsF true false) val := lwG (by kernel_rfl) (by simp [wfVs, wfV]) (by kernel_rfl) h (fun _ _ _ => by kernel_rfl)

theorem lawe0z (val : Nat → Int) (h : Holds val [.ne (.a 7) 0, .is (.a 11) 0, .is (.a 13) 0, .is (.a 38) 0]) : LwCl Try.prog [] 3 [fZ, instE] (lawT0 fZ [] true false) val := lwG (by kernel_rfl) (by simp [wfVs, wfV]) (by kernel_rfl) h (fun _ _ _ => by kernel_rfl)

theorem big1 (val : Nat → Int) (h : Holds val [.ge (.a 11) 10]) : LwCl Try.prog [] 3 [fZ, instE] T_big1 val := lwG (by kernel_rfl) (by simp [wfVs, wfV]) (by kernel_rfl) h (fun _ _ _ => by kernel_rfl)

end Go.Proofs.Ytlggmhchgicjkaa.Tab
