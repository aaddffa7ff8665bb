/-
  Ways through the code, part 3.
-/
import Derived.Test.YtndiilfjeconbaaSamH
namespace Go.Proofs.Ytndiilfjeconbaa.Tab
open Go.Sim
set_option maxRecDepth 100000
set_option linter.unusedSimpArgs false
set_option maxHeartbeats 4000000

theorem sameQ6_3 (val : Nat → Int) : SameQ 6 3 val :=
  have h : Holds val [] := holds_nil
  by_e2 0 1 h (fun h => by_way (conj 100 200) (.at (conj 100 200) true) (.at (conj 100 200) false) rfl rfl h (fun h => by_way (conj 111 211) (.at (conj 111 211) true) (.at (conj 111 211) false) rfl rfl h (fun h => by_way (conj 122 222) (.at (conj 122 222) true) (.at (conj 122 222) false) rfl rfl h (fun h => leafS h (fun _ => by kernel_rfl))
 (fun h => leafS h (fun _ => by kernel_rfl)))
 (fun h => leafS h (fun _ => by kernel_rfl)))
 (fun h => leafS h (fun _ => by kernel_rfl)))
 (fun h => leafS h (fun _ => by kernel_rfl))


theorem sameQ2_5 (val : Nat → Int) : SameQ 2 5 val :=
  have h : Holds val [] := holds_nil
  by_e2 0 1 h (fun h => by_way (conj 100 200) (.at (conj 100 200) true) (.at (conj 100 200) false) rfl rfl h (fun h => by_way (conj 111 211) (.at (conj 111 211) true) (.at (conj 111 211) false) rfl rfl h (fun h => leafS h (fun _ => by kernel_rfl))
 (fun h => leafS h (fun _ => by kernel_rfl)))
 (fun h => leafS h (fun _ => by kernel_rfl)))
 (fun h => leafS h (fun _ => by kernel_rfl))


theorem sameQ1_1 (val : Nat → Int) : SameQ 1 1 val :=
  have h : Holds val [] := holds_nil
  by_e2 0 1 h (fun h => by_way (conj 100 200) (.at (conj 100 200) true) (.at (conj 100 200) false) rfl rfl h (fun h => leafS h (fun _ => by kernel_rfl))
 (fun h => leafS h (fun _ => by kernel_rfl)))
 (fun h => leafS h (fun _ => by kernel_rfl))


theorem sameQ1_6 (val : Nat → Int) : SameQ 1 6 val :=
  have h : Holds val [] := holds_nil
  by_e2 0 1 h (fun h => leafS h (fun _ => by kernel_rfl))
 (fun h => leafS h (fun _ => by kernel_rfl))


theorem sameQ2_3 (val : Nat → Int) : SameQ 2 3 val :=
  have h : Holds val [] := holds_nil
  by_e2 0 1 h (fun h => leafS h (fun _ => by kernel_rfl))
 (fun h => leafS h (fun _ => by kernel_rfl))


theorem sameQ2_9 (val : Nat → Int) : SameQ 2 9 val :=
  have h : Holds val [] := holds_nil
  by_e2 0 1 h (fun h => leafS h (fun _ => by kernel_rfl))
 (fun h => leafS h (fun _ => by kernel_rfl))


theorem sameQ3_5 (val : Nat → Int) : SameQ 3 5 val :=
  have h : Holds val [] := holds_nil
  by_e2 0 1 h (fun h => leafS h (fun _ => by kernel_rfl))
 (fun h => leafS h (fun _ => by kernel_rfl))


theorem sameQ4_2 (val : Nat → Int) : SameQ 4 2 val :=
  have h : Holds val [] := holds_nil
  by_e2 0 1 h (fun h => leafS h (fun _ => by kernel_rfl))
 (fun h => leafS h (fun _ => by kernel_rfl))


theorem sameQ4_8 (val : Nat → Int) : SameQ 4 8 val :=
  have h : Holds val [] := holds_nil
  by_e2 0 1 h (fun h => leafS h (fun _ => by kernel_rfl))
 (fun h => leafS h (fun _ => by kernel_rfl))


theorem sameQ5_4 (val : Nat → Int) : SameQ 5 4 val :=
  have h : Holds val [] := holds_nil
  by_e2 0 1 h (fun h => leafS h (fun _ => by kernel_rfl))
 (fun h => leafS h (fun _ => by kernel_rfl))


theorem sameQ6_1 (val : Nat → Int) : SameQ 6 1 val :=
  have h : Holds val [] := holds_nil
  by_e2 0 1 h (fun h => leafS h (fun _ => by kernel_rfl))
 (fun h => leafS h (fun _ => by kernel_rfl))


theorem sameQ6_8 (val : Nat → Int) : SameQ 6 8 val :=
  have h : Holds val [] := holds_nil
  by_e2 0 1 h (fun h => leafS h (fun _ => by kernel_rfl))
 (fun h => leafS h (fun _ => by kernel_rfl))


theorem sameQ8_3 (val : Nat → Int) : SameQ 8 3 val :=
  have h : Holds val [] := holds_nil
  by_e2 0 1 h (fun h => leafS h (fun _ => by kernel_rfl))
 (fun h => leafS h (fun _ => by kernel_rfl))


theorem sameQ8_8 (val : Nat → Int) : SameQ 8 8 val :=
  have h : Holds val [] := holds_nil
  by_e2 0 1 h (fun h => leafS h (fun _ => by kernel_rfl))
 (fun h => leafS h (fun _ => by kernel_rfl))


theorem sameQ9_3 (val : Nat → Int) : SameQ 9 3 val :=
  have h : Holds val [] := holds_nil
  by_e2 0 1 h (fun h => leafS h (fun _ => by kernel_rfl))
 (fun h => leafS h (fun _ => by kernel_rfl))


theorem sameQ9_8 (val : Nat → Int) : SameQ 9 8 val :=
  have h : Holds val [] := holds_nil
  by_e2 0 1 h (fun h => leafS h (fun _ => by kernel_rfl))
 (fun h => leafS h (fun _ => by kernel_rfl))


theorem sameQ0_2 (val : Nat → Int) (h : Holds val [.ne (.a 6) 0]) : SameQ 0 2 val := leafS h (fun _ => by kernel_rfl)


theorem sameQ0_6 (val : Nat → Int) (h : Holds val [.ne (.a 6) 0]) : SameQ 0 6 val := leafS h (fun _ => by kernel_rfl)


theorem sameQ1_0 (val : Nat → Int) (h : Holds val [.ne (.a 7) 0]) : SameQ 1 0 val := leafS h (fun _ => by kernel_rfl)


theorem sameQ3_0 (val : Nat → Int) (h : Holds val [.ne (.a 7) 0]) : SameQ 3 0 val := leafS h (fun _ => by kernel_rfl)


theorem sameQ5_0 (val : Nat → Int) (h : Holds val [.ne (.a 7) 0]) : SameQ 5 0 val := leafS h (fun _ => by kernel_rfl)


theorem sameQ7_0 (val : Nat → Int) (h : Holds val [.ne (.a 6) 0, .ne (.a 7) 0]) : SameQ 7 0 val := leafS h (fun _ => by kernel_rfl)


theorem sameQ7_4 (val : Nat → Int) (h : Holds val [.ne (.a 6) 0]) : SameQ 7 4 val := leafS h (fun _ => by kernel_rfl)


theorem sameQ7_8 (val : Nat → Int) (h : Holds val [.ne (.a 6) 0]) : SameQ 7 8 val := leafS h (fun _ => by kernel_rfl)


theorem sameQ9_0 (val : Nat → Int) (h : Holds val [.ne (.a 7) 0]) : SameQ 9 0 val := leafS h (fun _ => by kernel_rfl)

end Go.Proofs.Ytndiilfjeconbaa.Tab
