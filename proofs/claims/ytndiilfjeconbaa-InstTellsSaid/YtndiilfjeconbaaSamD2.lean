/-
  Ways through the code, part 2.
-/
import Derived.Test.YtndiilfjeconbaaSamH
namespace Go.Proofs.Ytndiilfjeconbaa.Tab
open Go.Sim
set_option maxRecDepth 100000
set_option linter.unusedSimpArgs false
set_option maxHeartbeats 4000000

theorem sameQ3_6 (val : Nat → Int) : SameQ 3 6 val :=
  have h : Holds val [] := holds_nil
  by_e2 0 1 h (fun h => by_way (conj 100 200) (.at (conj 100 200) true) (.at (conj 100 200) false) rfl rfl h (fun h => by_way (conj 111 211) (.at (conj 111 211) true) (.at (conj 111 211) false) rfl rfl h (fun h => by_way (conj 122 222) (.at (conj 122 222) true) (.at (conj 122 222) false) rfl rfl h (fun h => leafS h (fun _ => by kernel_rfl))
 (fun h => leafS h (fun _ => by kernel_rfl)))
 (fun h => leafS h (fun _ => by kernel_rfl)))
 (fun h => leafS h (fun _ => by kernel_rfl)))
 (fun h => leafS h (fun _ => by kernel_rfl))


theorem sameQ2_2 (val : Nat → Int) : SameQ 2 2 val :=
  have h : Holds val [] := holds_nil
  by_e2 0 1 h (fun h => by_way (conj 100 200) (.at (conj 100 200) true) (.at (conj 100 200) false) rfl rfl h (fun h => by_way (conj 111 211) (.at (conj 111 211) true) (.at (conj 111 211) false) rfl rfl h (fun h => leafS h (fun _ => by kernel_rfl))
 (fun h => leafS h (fun _ => by kernel_rfl)))
 (fun h => leafS h (fun _ => by kernel_rfl)))
 (fun h => leafS h (fun _ => by kernel_rfl))


theorem sameQ5_5 (val : Nat → Int) : SameQ 5 5 val :=
  have h : Holds val [] := holds_nil
  by_e2 0 1 h (fun h => by_way (conj 100 200) (.at (conj 100 200) true) (.at (conj 100 200) false) rfl rfl h (fun h => by_way (conj 111 211) (.at (conj 111 211) true) (.at (conj 111 211) false) rfl rfl h (fun h => leafS h (fun _ => by kernel_rfl))
 (fun h => leafS h (fun _ => by kernel_rfl)))
 (fun h => leafS h (fun _ => by kernel_rfl)))
 (fun h => leafS h (fun _ => by kernel_rfl))


theorem sameQ1_8 (val : Nat → Int) : SameQ 1 8 val :=
  have h : Holds val [] := holds_nil
  by_e2 0 1 h (fun h => leafS h (fun _ => by kernel_rfl))
 (fun h => leafS h (fun _ => by kernel_rfl))


theorem sameQ2_4 (val : Nat → Int) : SameQ 2 4 val :=
  have h : Holds val [] := holds_nil
  by_e2 0 1 h (fun h => leafS h (fun _ => by kernel_rfl))
 (fun h => leafS h (fun _ => by kernel_rfl))


theorem sameQ3_1 (val : Nat → Int) : SameQ 3 1 val :=
  have h : Holds val [] := holds_nil
  by_e2 0 1 h (fun h => leafS h (fun _ => by kernel_rfl))
 (fun h => leafS h (fun _ => by kernel_rfl))


theorem sameQ3_8 (val : Nat → Int) : SameQ 3 8 val :=
  have h : Holds val [] := holds_nil
  by_e2 0 1 h (fun h => leafS h (fun _ => by kernel_rfl))
 (fun h => leafS h (fun _ => by kernel_rfl))


theorem sameQ4_3 (val : Nat → Int) : SameQ 4 3 val :=
  have h : Holds val [] := holds_nil
  by_e2 0 1 h (fun h => leafS h (fun _ => by kernel_rfl))
 (fun h => leafS h (fun _ => by kernel_rfl))


theorem sameQ4_9 (val : Nat → Int) : SameQ 4 9 val :=
  have h : Holds val [] := holds_nil
  by_e2 0 1 h (fun h => leafS h (fun _ => by kernel_rfl))
 (fun h => leafS h (fun _ => by kernel_rfl))


theorem sameQ5_6 (val : Nat → Int) : SameQ 5 6 val :=
  have h : Holds val [] := holds_nil
  by_e2 0 1 h (fun h => leafS h (fun _ => by kernel_rfl))
 (fun h => leafS h (fun _ => by kernel_rfl))


theorem sameQ6_2 (val : Nat → Int) : SameQ 6 2 val :=
  have h : Holds val [] := holds_nil
  by_e2 0 1 h (fun h => leafS h (fun _ => by kernel_rfl))
 (fun h => leafS h (fun _ => by kernel_rfl))


theorem sameQ6_9 (val : Nat → Int) : SameQ 6 9 val :=
  have h : Holds val [] := holds_nil
  by_e2 0 1 h (fun h => leafS h (fun _ => by kernel_rfl))
 (fun h => leafS h (fun _ => by kernel_rfl))


theorem sameQ8_4 (val : Nat → Int) : SameQ 8 4 val :=
  have h : Holds val [] := holds_nil
  by_e2 0 1 h (fun h => leafS h (fun _ => by kernel_rfl))
 (fun h => leafS h (fun _ => by kernel_rfl))


theorem sameQ8_9 (val : Nat → Int) : SameQ 8 9 val :=
  have h : Holds val [] := holds_nil
  by_e2 0 1 h (fun h => leafS h (fun _ => by kernel_rfl))
 (fun h => leafS h (fun _ => by kernel_rfl))


theorem sameQ9_4 (val : Nat → Int) : SameQ 9 4 val :=
  have h : Holds val [] := holds_nil
  by_e2 0 1 h (fun h => leafS h (fun _ => by kernel_rfl))
 (fun h => leafS h (fun _ => by kernel_rfl))


theorem sameQ9_9 (val : Nat → Int) : SameQ 9 9 val :=
  have h : Holds val [] := holds_nil
  by_e2 0 1 h (fun h => leafS h (fun _ => by kernel_rfl))
 (fun h => leafS h (fun _ => by kernel_rfl))


theorem sameQ0_5 (val : Nat → Int) (h : Holds val [.ne (.a 6) 0]) : SameQ 0 5 val := leafS h (fun _ => by kernel_rfl)


theorem sameQ0_9 (val : Nat → Int) (h : Holds val [.ne (.a 6) 0]) : SameQ 0 9 val := leafS h (fun _ => by kernel_rfl)


theorem sameQ2_7 (val : Nat → Int) (h : Holds val [.ne (.a 7) 0]) : SameQ 2 7 val := leafS h (fun _ => by kernel_rfl)


theorem sameQ4_7 (val : Nat → Int) (h : Holds val [.ne (.a 7) 0]) : SameQ 4 7 val := leafS h (fun _ => by kernel_rfl)


theorem sameQ6_7 (val : Nat → Int) (h : Holds val [.ne (.a 7) 0]) : SameQ 6 7 val := leafS h (fun _ => by kernel_rfl)


theorem sameQ7_3 (val : Nat → Int) (h : Holds val [.ne (.a 6) 0]) : SameQ 7 3 val := leafS h (fun _ => by kernel_rfl)


theorem sameQ7_7 (val : Nat → Int) (h : Holds val [.ne (.a 6) 0, .ne (.a 7) 0]) : SameQ 7 7 val := leafS h (fun _ => by kernel_rfl)


theorem sameQ8_7 (val : Nat → Int) (h : Holds val [.ne (.a 7) 0]) : SameQ 8 7 val := leafS h (fun _ => by kernel_rfl)

end Go.Proofs.Ytndiilfjeconbaa.Tab
