/-
  The law, part 2.
-/
import Derived.Test.YtlggmhchgicjkaaLawH
namespace Go.Proofs.Ytlggmhchgicjkaa.Tab
open Go.Sim
set_option maxRecDepth 100000

theorem lawt4_1 (val : Nat → Int) (h : Holds val [.is (.a 28) 0, .at (.eq (.a 20) (.a 0)) true, .is (.a 11) 4, .is (.a 7) 0, .ge (.a 11) 0, .le (.a 11) 9, .ge (.a 13) 0, .le (.a 13) 9, .ge (.a 1) 4, .is (.a 40) 3, .ne (.a 80) 3, .ne (.a 120) 3, .ne (.a 160) 3]) : LwCl Try.prog (outsN 4) 3 [fA, instB 2 4] (lawTt 4 1 true) val := lwN (by kernel_rfl) (by kernel_rfl) h (fun _ _ _ => by kernel_rfl)

theorem lawf4_2 (val : Nat → Int) (h : Holds val [.is (.a 7) 0, .ge (.a 11) 0, .le (.a 11) 9, .ge (.a 13) 0, .le (.a 13) 9, .ge (.a 1) 4, .ne (.a 40) 3, .is (.a 80) 3, .ne (.a 120) 3, .ne (.a 160) 3]) : LwCl Try.prog (outsN 4) 3 [fA, instB 2 4] (lawTt 4 2 false) val := lwN (by kernel_rfl) (by kernel_rfl) h (fun _ _ _ => by kernel_rfl)

theorem lawt4_4 (val : Nat → Int) (h : Holds val [.is (.a 28) 0, .at (.eq (.a 20) (.a 0)) true, .is (.a 11) 4, .is (.a 7) 0, .ge (.a 11) 0, .le (.a 11) 9, .ge (.a 13) 0, .le (.a 13) 9, .ge (.a 1) 4, .ne (.a 40) 3, .ne (.a 80) 3, .is (.a 120) 3, .ne (.a 160) 3]) : LwCl Try.prog (outsN 4) 3 [fA, instB 2 4] (lawTt 4 4 true) val := lwN (by kernel_rfl) (by kernel_rfl) h (fun _ _ _ => by kernel_rfl)

theorem lawf4_5 (val : Nat → Int) (h : Holds val [.is (.a 7) 0, .ge (.a 11) 0, .le (.a 11) 9, .ge (.a 13) 0, .le (.a 13) 9, .ge (.a 1) 4, .is (.a 40) 3, .ne (.a 80) 3, .is (.a 120) 3, .ne (.a 160) 3]) : LwCl Try.prog (outsN 4) 3 [fA, instB 2 4] (lawTt 4 5 false) val := lwN (by kernel_rfl) (by kernel_rfl) h (fun _ _ _ => by kernel_rfl)

theorem lawt4_7 (val : Nat → Int) (h : Holds val [.is (.a 28) 0, .at (.eq (.a 20) (.a 0)) true, .is (.a 11) 4, .is (.a 7) 0, .ge (.a 11) 0, .le (.a 11) 9, .ge (.a 13) 0, .le (.a 13) 9, .ge (.a 1) 4, .is (.a 40) 3, .is (.a 80) 3, .is (.a 120) 3, .ne (.a 160) 3]) : LwCl Try.prog (outsN 4) 3 [fA, instB 2 4] (lawTt 4 7 true) val := lwN (by kernel_rfl) (by kernel_rfl) h (fun _ _ _ => by kernel_rfl)

theorem lawf4_8 (val : Nat → Int) (h : Holds val [.is (.a 7) 0, .ge (.a 11) 0, .le (.a 11) 9, .ge (.a 13) 0, .le (.a 13) 9, .ge (.a 1) 4, .ne (.a 40) 3, .ne (.a 80) 3, .ne (.a 120) 3, .is (.a 160) 3]) : LwCl Try.prog (outsN 4) 3 [fA, instB 2 4] (lawTt 4 8 false) val := lwN (by kernel_rfl) (by kernel_rfl) h (fun _ _ _ => by kernel_rfl)

theorem lawt4_10 (val : Nat → Int) (h : Holds val [.is (.a 28) 0, .at (.eq (.a 20) (.a 0)) true, .is (.a 11) 4, .is (.a 7) 0, .ge (.a 11) 0, .le (.a 11) 9, .ge (.a 13) 0, .le (.a 13) 9, .ge (.a 1) 4, .ne (.a 40) 3, .is (.a 80) 3, .ne (.a 120) 3, .is (.a 160) 3]) : LwCl Try.prog (outsN 4) 3 [fA, instB 2 4] (lawTt 4 10 true) val := lwN (by kernel_rfl) (by kernel_rfl) h (fun _ _ _ => by kernel_rfl)

theorem lawf4_11 (val : Nat → Int) (h : Holds val [.is (.a 7) 0, .ge (.a 11) 0, .le (.a 11) 9, .ge (.a 13) 0, .le (.a 13) 9, .ge (.a 1) 4, .is (.a 40) 3, .is (.a 80) 3, .ne (.a 120) 3, .is (.a 160) 3]) : LwCl Try.prog (outsN 4) 3 [fA, instB 2 4] (lawTt 4 11 false) val := lwN (by kernel_rfl) (by kernel_rfl) h (fun _ _ _ => by kernel_rfl)

theorem lawt4_13 (val : Nat → Int) (h : Holds val [.is (.a 28) 0, .at (.eq (.a 20) (.a 0)) true, .is (.a 11) 4, .is (.a 7) 0, .ge (.a 11) 0, .le (.a 11) 9, .ge (.a 13) 0, .le (.a 13) 9, .ge (.a 1) 4, .is (.a 40) 3, .ne (.a 80) 3, .is (.a 120) 3, .is (.a 160) 3]) : LwCl Try.prog (outsN 4) 3 [fA, instB 2 4] (lawTt 4 13 true) val := lwN (by kernel_rfl) (by kernel_rfl) h (fun _ _ _ => by kernel_rfl)

theorem lawf4_14 (val : Nat → Int) (h : Holds val [.is (.a 7) 0, .ge (.a 11) 0, .le (.a 11) 9, .ge (.a 13) 0, .le (.a 13) 9, .ge (.a 1) 4, .ne (.a 40) 3, .is (.a 80) 3, .is (.a 120) 3, .is (.a 160) 3]) : LwCl Try.prog (outsN 4) 3 [fA, instB 2 4] (lawTt 4 14 false) val := lwN (by kernel_rfl) (by kernel_rfl) h (fun _ _ _ => by kernel_rfl)

theorem lawt3_0 (val : Nat → Int) (h : Holds val [.is (.a 28) 0, .at (.eq (.a 20) (.a 0)) true, .is (.a 11) 3, .is (.a 7) 0, .ge (.a 11) 0, .le (.a 11) 9, .ge (.a 13) 0, .le (.a 13) 9, .ge (.a 1) 3, .ne (.a 40) 3, .ne (.a 80) 3, .ne (.a 120) 3]) : LwCl Try.prog (outsN 3) 3 [fA, instB 2 3] (lawTt 3 0 true) val := lwN (by kernel_rfl) (by kernel_rfl) h (fun _ _ _ => by kernel_rfl)

theorem lawf3_0 (val : Nat → Int) (h : Holds val [.is (.a 7) 0, .ge (.a 11) 0, .le (.a 11) 9, .ge (.a 13) 0, .le (.a 13) 9, .ge (.a 1) 3, .ne (.a 40) 3, .ne (.a 80) 3, .ne (.a 120) 3]) : LwCl Try.prog (outsN 3) 3 [fA, instB 2 3] (lawTt 3 0 false) val := lwN (by kernel_rfl) (by kernel_rfl) h (fun _ _ _ => by kernel_rfl)

theorem lawt3_2 (val : Nat → Int) (h : Holds val [.is (.a 28) 0, .at (.eq (.a 20) (.a 0)) true, .is (.a 11) 3, .is (.a 7) 0, .ge (.a 11) 0, .le (.a 11) 9, .ge (.a 13) 0, .le (.a 13) 9, .ge (.a 1) 3, .ne (.a 40) 3, .is (.a 80) 3, .ne (.a 120) 3]) : LwCl Try.prog (outsN 3) 3 [fA, instB 2 3] (lawTt 3 2 true) val := lwN (by kernel_rfl) (by kernel_rfl) h (fun _ _ _ => by kernel_rfl)

theorem lawf3_3 (val : Nat → Int) (h : Holds val [.is (.a 7) 0, .ge (.a 11) 0, .le (.a 11) 9, .ge (.a 13) 0, .le (.a 13) 9, .ge (.a 1) 3, .is (.a 40) 3, .is (.a 80) 3, .ne (.a 120) 3]) : LwCl Try.prog (outsN 3) 3 [fA, instB 2 3] (lawTt 3 3 false) val := lwN (by kernel_rfl) (by kernel_rfl) h (fun _ _ _ => by kernel_rfl)

theorem lawt3_5 (val : Nat → Int) (h : Holds val [.is (.a 28) 0, .at (.eq (.a 20) (.a 0)) true, .is (.a 11) 3, .is (.a 7) 0, .ge (.a 11) 0, .le (.a 11) 9, .ge (.a 13) 0, .le (.a 13) 9, .ge (.a 1) 3, .is (.a 40) 3, .ne (.a 80) 3, .is (.a 120) 3]) : LwCl Try.prog (outsN 3) 3 [fA, instB 2 3] (lawTt 3 5 true) val := lwN (by kernel_rfl) (by kernel_rfl) h (fun _ _ _ => by kernel_rfl)

theorem lawf3_6 (val : Nat → Int) (h : Holds val [.is (.a 7) 0, .ge (.a 11) 0, .le (.a 11) 9, .ge (.a 13) 0, .le (.a 13) 9, .ge (.a 1) 3, .ne (.a 40) 3, .is (.a 80) 3, .is (.a 120) 3]) : LwCl Try.prog (outsN 3) 3 [fA, instB 2 3] (lawTt 3 6 false) val := lwN (by kernel_rfl) (by kernel_rfl) h (fun _ _ _ => by kernel_rfl)

theorem lawt2_0 (val : Nat → Int) (h : Holds val [.is (.a 28) 0, .at (.eq (.a 20) (.a 0)) true, .is (.a 11) 2, .is (.a 7) 0, .ge (.a 11) 0, .le (.a 11) 9, .ge (.a 13) 0, .le (.a 13) 9, .ge (.a 1) 2, .ne (.a 40) 3, .ne (.a 80) 3]) : LwCl Try.prog (outsN 2) 3 [fA, instB 2 2] (lawTt 2 0 true) val := lwN (by kernel_rfl) (by kernel_rfl) h (fun _ _ _ => by kernel_rfl)

theorem lawf2_1 (val : Nat → Int) (h : Holds val [.is (.a 7) 0, .ge (.a 11) 0, .le (.a 11) 9, .ge (.a 13) 0, .le (.a 13) 9, .ge (.a 1) 2, .is (.a 40) 3, .ne (.a 80) 3]) : LwCl Try.prog (outsN 2) 3 [fA, instB 2 2] (lawTt 2 1 false) val := lwN (by kernel_rfl) (by kernel_rfl) h (fun _ _ _ => by kernel_rfl)

theorem lawt2_3 (val : Nat → Int) (h : Holds val [.is (.a 28) 0, .at (.eq (.a 20) (.a 0)) true, .is (.a 11) 2, .is (.a 7) 0, .ge (.a 11) 0, .le (.a 11) 9, .ge (.a 13) 0, .le (.a 13) 9, .ge (.a 1) 2, .is (.a 40) 3, .is (.a 80) 3]) : LwCl Try.prog (outsN 2) 3 [fA, instB 2 2] (lawTt 2 3 true) val := lwN (by kernel_rfl) (by kernel_rfl) h (fun _ _ _ => by kernel_rfl)

theorem lawt1_1 (val : Nat → Int) (h : Holds val [.is (.a 28) 0, .at (.eq (.a 20) (.a 0)) true, .is (.a 11) 1, .is (.a 7) 0, .ge (.a 11) 0, .le (.a 11) 9, .ge (.a 13) 0, .le (.a 13) 9, .ge (.a 1) 1, .is (.a 40) 3]) : LwCl Try.prog (outsN 1) 3 [fA, instB 2 1] (lawTt 1 1 true) val := lwN (by kernel_rfl) (by kernel_rfl) h (fun _ _ _ => by kernel_rfl)

theorem lawe2 (val : Nat → Int) (h : Holds val [.ne (.a 7) 0, .ge (.a 11) 0, .le (.a 11) 9, .ge (.a 13) 0, .le (.a 13) 9, .ge (.a 1) 2]) : LwCl Try.prog (outsN 2) 3 [fA, instB 2 2] (lawTe 2) val := lwN (by kernel_rfl) (by kernel_rfl) h (fun _ _ _ => by kernel_rfl)

theorem lawe5 (val : Nat → Int) (h : Holds val [.ne (.a 7) 0, .ge (.a 11) 0, .le (.a 11) 9, .ge (.a 13) 0, .le (.a 13) 9, .ge (.a 1) 5]) : LwCl Try.prog (outsN 5) 3 [fA, instB 2 5] (lawTe 5) val := lwN (by kernel_rfl) (by kernel_rfl) h (fun _ _ _ => by kernel_rfl)

theorem lawe8 (val : Nat → Int) (h : Holds val [.ne (.a 7) 0, .ge (.a 11) 0, .le (.a 11) 9, .ge (.a 13) 0, .le (.a 13) 9, .ge (.a 1) 8]) : LwCl Try.prog (outsN 8) 3 [fA, instB 2 8] (lawTe 8) val := lwN (by kernel_rfl) (by kernel_rfl) h (fun _ _ _ => by kernel_rfl)

theorem lawt0 (val : Nat → Int) (h : Holds val [.is (.a 28) 0, .at (.eq (.a 20) (.a 0)) true, .is (.a 11) 0, .is (.a 7) 0, .ge (.a 11) 0, .le (.a 11) 9, .ge (.a 13) 0, .le (.a 13) 9, .is (.a 38) 0]) : LwCl Try.prog outsF 3 [fA, instE] (lawT0 fA outsF false true) val := lwG (by kernel_rfl) (by simp [wfVs, wfV]) (by kernel_rfl) h (fun _ _ _ => by kernel_rfl)

theorem lawt0z (val : Nat → Int) (h : Holds val [.is (.a 28) 0, .at (.eq (.a 20) (.a 0)) true, .is (.a 7) 0, .is (.a 11) 0, .is (.a 13) 0, .is (.a 38) 0]) : LwCl Try.prog [] 3 [fZ, instE] (lawT0 fZ [] false true) val := lwG (by kernel_rfl) (by simp [wfVs, wfV]) (by kernel_rfl) h (fun _ _ _ => by kernel_rfl)

theorem big2 (val : Nat → Int) (h : Holds val [.ge (.a 11) 0, .le (.a 11) 9, .ge (.a 13) 10]) : LwCl Try.prog [] 3 [fZ, instE] T_big1 val := lwG (by kernel_rfl) (by simp [wfVs, wfV]) (by kernel_rfl) h (fun _ _ _ => by kernel_rfl)

end Go.Proofs.Ytlggmhchgicjkaa.Tab
