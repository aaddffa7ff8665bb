/-
  Ways through the code, part 2.
-/
import Derived.Test.YtndiilfjeconbaaNimH
namespace Go.Proofs.Ytndiilfjeconbaa.Tab
open Go.Sim
set_option maxRecDepth 100000
set_option linter.unusedSimpArgs false
set_option maxHeartbeats 4000000

theorem nameJ_0 (val : Nat → Int) (h : Holds val [tI 0 1, .le (.a 0) 322, .ge (.a 0) 1]) : NameJ val := nlf h [(.c 1), (.c 0), (.c 1)] (by kernel_rfl)

theorem nameJ_1 (val : Nat → Int) (h : Holds val [tI 0 2, tN 0 1, .le (.a 0) 322, .ge (.a 0) 1]) : NameJ val := nlf h [(.c 1), (.c 0), (.c 1)] (by kernel_rfl)

theorem nameJ_2 (val : Nat → Int) (h : Holds val [tI 0 3, tN 0 2, tN 0 1, .le (.a 0) 322, .ge (.a 0) 1]) : NameJ val := nlf h [(.c 1), (.c 0), (.c 1)] (by kernel_rfl)

theorem nameJ_3 (val : Nat → Int) (h : Holds val [tI 0 4, tN 0 3, tN 0 2, tN 0 1, .le (.a 0) 322, .ge (.a 0) 1]) : NameJ val := nlf h [(.c 1), (.c 0), (.c 1)] (by kernel_rfl)

theorem nameJ_4 (val : Nat → Int) (h : Holds val [tI 0 5, tN 0 4, tN 0 3, tN 0 2, tN 0 1, .le (.a 0) 322, .ge (.a 0) 1]) : NameJ val := nlf h [(.c 1), (.c 0), (.c 1)] (by kernel_rfl)

theorem nameJ_5 (val : Nat → Int) (h : Holds val [tI 0 6, tN 0 5, tN 0 4, tN 0 3, tN 0 2, tN 0 1, .le (.a 0) 322, .ge (.a 0) 1]) : NameJ val := nlf h [(.c 1), (.c 0), (.c 1)] (by kernel_rfl)

theorem nameJ_6 (val : Nat → Int) (h : Holds val [tI 0 7, tN 0 6, tN 0 5, tN 0 4, tN 0 3, tN 0 2, tN 0 1, .le (.a 0) 322, .ge (.a 0) 1]) : NameJ val := nlf h [(.c 1), (.c 0), (.c 1)] (by kernel_rfl)

theorem nameJ_8 (val : Nat → Int) (h : Holds val [.le (.a 0) 10, .ne (.a 0) 51, .ne (.a 0) 48, .ne (.a 0) 16, .ne (.a 0) 10, .ne (.a 0) 9, .ne (.a 0) 8, .ne (.a 0) 7, .ne (.a 0) 6, .ne (.a 0) 5, .ne (.a 0) 4, .ne (.a 0) 3, .ne (.a 0) 2, .ne (.a 0) 1, .le (.a 0) 322, .ge (.a 0) 1]) : NameJ val := by
  exfalso
  simp only [Holds, List.forall_mem_cons, List.not_mem_nil, false_implies, implies_true, and_true, Fact.holds, SB.eval, SX.eval] at h
  omega

theorem nameJ_7 (val : Nat → Int) (h : Holds val [tN 0 7, tN 0 6, tN 0 5, tN 0 4, tN 0 3, tN 0 2, tN 0 1, .le (.a 0) 322, .ge (.a 0) 1]) : NameJ val := by_eq 0 8 h (fun h => nlf h [(.c 1), (.c 0), (.c 1)] (by kernel_rfl))
 (fun h => by_eq 0 9 h (fun h => nlf h [(.c 1), (.c 0), (.c 1)] (by kernel_rfl))
 (fun h => by_eq 0 10 h (fun h => nlf h [(.c 1), (.c 0), (.c 1)] (by kernel_rfl))
 (fun h => by_eq 0 16 h (fun h => nlf h [(.c 1), (.c 0), (.c 1)] (by kernel_rfl))
 (fun h => by_eq 0 48 h (fun h => nlf h [(.c 1), (.c 64), (.c 1)] (by kernel_rfl))
 (fun h => by_eq 0 51 h (fun h => nlf h [(.c 1), (.c 16), (.c 0)] (by kernel_rfl))
 (fun h => by_way (.le (.a 0) (.c 10)) (.le (.a 0) 10) (.ge (.a 0) 11) rfl rfl h (fun h => nameJ_8 val h)
 (fun h => nlf h [(.c 1), (.c 8), (.c 0)] (by kernel_rfl))))))))

theorem nameJ_9 (val : Nat → Int) (h : Holds val [.ge (.a 0) 323, .ge (.a 0) 1]) : NameJ val := nlf h [(.c 0), (.c 0), (.c 0)] (by kernel_rfl)

theorem nameJ_10 (val : Nat → Int) (h : Holds val [.le (.a 0) 0]) : NameJ val := nlf h [(.c 0), (.c 0), (.c 0)] (by kernel_rfl)

theorem nameJ (val : Nat → Int) : NameJ val :=
  have h : Holds val [] := holds_nil
  by_way (.le (.c 1) (.a 0)) (.ge (.a 0) 1) (.le (.a 0) 0) rfl rfl h (fun h => by_way (.le (.a 0) (.c 322)) (.le (.a 0) 322) (.ge (.a 0) 323) rfl rfl h (fun h => by_eq 0 1 h (fun h => nameJ_0 val h)
 (fun h => by_eq 0 2 h (fun h => nameJ_1 val h)
 (fun h => by_eq 0 3 h (fun h => nameJ_2 val h)
 (fun h => by_eq 0 4 h (fun h => nameJ_3 val h)
 (fun h => by_eq 0 5 h (fun h => nameJ_4 val h)
 (fun h => by_eq 0 6 h (fun h => nameJ_5 val h)
 (fun h => by_eq 0 7 h (fun h => nameJ_6 val h)
 (fun h => nameJ_7 val h))))))))
 (fun h => nameJ_9 val h))
 (fun h => nameJ_10 val h)

end Go.Proofs.Ytndiilfjeconbaa.Tab
