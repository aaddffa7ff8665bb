/-
  Ways through the code, part 1.
-/
import Derived.Test.YtndiilfjeconbaaSamH
namespace Go.Proofs.Ytndiilfjeconbaa.Tab
open Go.Sim
set_option maxRecDepth 100000
set_option linter.unusedSimpArgs false
set_option maxHeartbeats 4000000

theorem sameQ3_3 (val : Nat → Int) : SameQ 3 3 val :=
  have h : Holds val [] := holds_nil
  by_e2 0 1 h (fun h => by_way (conj 100 200) (.at (conj 100 200) true) (.at (conj 100 200) false) rfl rfl h (fun h => by_way (conj 111 211) (.at (conj 111 211) true) (.at (conj 111 211) false) rfl rfl h (fun h => by_way (conj 122 222) (.at (conj 122 222) true) (.at (conj 122 222) false) rfl rfl h (fun h => leafS h (fun _ => by kernel_rfl))
 (fun h => leafS h (fun _ => by kernel_rfl)))
 (fun h => leafS h (fun _ => by kernel_rfl)))
 (fun h => leafS h (fun _ => by kernel_rfl)))
 (fun h => leafS h (fun _ => by kernel_rfl))


theorem sameQ6_6 (val : Nat → Int) : SameQ 6 6 val :=
  have h : Holds val [] := holds_nil
  by_e2 0 1 h (fun h => by_way (conj 100 200) (.at (conj 100 200) true) (.at (conj 100 200) false) rfl rfl h (fun h => by_way (conj 111 211) (.at (conj 111 211) true) (.at (conj 111 211) false) rfl rfl h (fun h => by_way (conj 122 222) (.at (conj 122 222) true) (.at (conj 122 222) false) rfl rfl h (fun h => leafS h (fun _ => by kernel_rfl))
 (fun h => leafS h (fun _ => by kernel_rfl)))
 (fun h => leafS h (fun _ => by kernel_rfl)))
 (fun h => leafS h (fun _ => by kernel_rfl)))
 (fun h => leafS h (fun _ => by kernel_rfl))


theorem sameQ1_3 (val : Nat → Int) : SameQ 1 3 val :=
  have h : Holds val [] := holds_nil
  by_e2 0 1 h (fun h => leafS h (fun _ => by kernel_rfl))
 (fun h => leafS h (fun _ => by kernel_rfl))


theorem sameQ1_5 (val : Nat → Int) : SameQ 1 5 val :=
  have h : Holds val [] := holds_nil
  by_e2 0 1 h (fun h => leafS h (fun _ => by kernel_rfl))
 (fun h => leafS h (fun _ => by kernel_rfl))


theorem sameQ2_1 (val : Nat → Int) : SameQ 2 1 val :=
  have h : Holds val [] := holds_nil
  by_e2 0 1 h (fun h => leafS h (fun _ => by kernel_rfl))
 (fun h => leafS h (fun _ => by kernel_rfl))


theorem sameQ2_8 (val : Nat → Int) : SameQ 2 8 val :=
  have h : Holds val [] := holds_nil
  by_e2 0 1 h (fun h => leafS h (fun _ => by kernel_rfl))
 (fun h => leafS h (fun _ => by kernel_rfl))


theorem sameQ3_4 (val : Nat → Int) : SameQ 3 4 val :=
  have h : Holds val [] := holds_nil
  by_e2 0 1 h (fun h => leafS h (fun _ => by kernel_rfl))
 (fun h => leafS h (fun _ => by kernel_rfl))


theorem sameQ4_1 (val : Nat → Int) : SameQ 4 1 val :=
  have h : Holds val [] := holds_nil
  by_e2 0 1 h (fun h => leafS h (fun _ => by kernel_rfl))
 (fun h => leafS h (fun _ => by kernel_rfl))


theorem sameQ4_6 (val : Nat → Int) : SameQ 4 6 val :=
  have h : Holds val [] := holds_nil
  by_e2 0 1 h (fun h => leafS h (fun _ => by kernel_rfl))
 (fun h => leafS h (fun _ => by kernel_rfl))


theorem sameQ5_3 (val : Nat → Int) : SameQ 5 3 val :=
  have h : Holds val [] := holds_nil
  by_e2 0 1 h (fun h => leafS h (fun _ => by kernel_rfl))
 (fun h => leafS h (fun _ => by kernel_rfl))


theorem sameQ5_9 (val : Nat → Int) : SameQ 5 9 val :=
  have h : Holds val [] := holds_nil
  by_e2 0 1 h (fun h => leafS h (fun _ => by kernel_rfl))
 (fun h => leafS h (fun _ => by kernel_rfl))


theorem sameQ6_5 (val : Nat → Int) : SameQ 6 5 val :=
  have h : Holds val [] := holds_nil
  by_e2 0 1 h (fun h => leafS h (fun _ => by kernel_rfl))
 (fun h => leafS h (fun _ => by kernel_rfl))


theorem sameQ8_2 (val : Nat → Int) : SameQ 8 2 val :=
  have h : Holds val [] := holds_nil
  by_e2 0 1 h (fun h => leafS h (fun _ => by kernel_rfl))
 (fun h => leafS h (fun _ => by kernel_rfl))


theorem sameQ8_6 (val : Nat → Int) : SameQ 8 6 val :=
  have h : Holds val [] := holds_nil
  by_e2 0 1 h (fun h => leafS h (fun _ => by kernel_rfl))
 (fun h => leafS h (fun _ => by kernel_rfl))


theorem sameQ9_2 (val : Nat → Int) : SameQ 9 2 val :=
  have h : Holds val [] := holds_nil
  by_e2 0 1 h (fun h => leafS h (fun _ => by kernel_rfl))
 (fun h => leafS h (fun _ => by kernel_rfl))


theorem sameQ9_6 (val : Nat → Int) : SameQ 9 6 val :=
  have h : Holds val [] := holds_nil
  by_e2 0 1 h (fun h => leafS h (fun _ => by kernel_rfl))
 (fun h => leafS h (fun _ => by kernel_rfl))


theorem sameQ0_1 (val : Nat → Int) (h : Holds val [.ne (.a 6) 0]) : SameQ 0 1 val := leafS h (fun _ => by kernel_rfl)


theorem sameQ0_4 (val : Nat → Int) (h : Holds val [.ne (.a 6) 0]) : SameQ 0 4 val := leafS h (fun _ => by kernel_rfl)


theorem sameQ0_8 (val : Nat → Int) (h : Holds val [.ne (.a 6) 0]) : SameQ 0 8 val := leafS h (fun _ => by kernel_rfl)


theorem sameQ2_0 (val : Nat → Int) (h : Holds val [.ne (.a 7) 0]) : SameQ 2 0 val := leafS h (fun _ => by kernel_rfl)


theorem sameQ4_0 (val : Nat → Int) (h : Holds val [.ne (.a 7) 0]) : SameQ 4 0 val := leafS h (fun _ => by kernel_rfl)


theorem sameQ6_0 (val : Nat → Int) (h : Holds val [.ne (.a 7) 0]) : SameQ 6 0 val := leafS h (fun _ => by kernel_rfl)


theorem sameQ7_2 (val : Nat → Int) (h : Holds val [.ne (.a 6) 0]) : SameQ 7 2 val := leafS h (fun _ => by kernel_rfl)


theorem sameQ7_6 (val : Nat → Int) (h : Holds val [.ne (.a 6) 0]) : SameQ 7 6 val := leafS h (fun _ => by kernel_rfl)


theorem sameQ8_0 (val : Nat → Int) (h : Holds val [.ne (.a 7) 0]) : SameQ 8 0 val := leafS h (fun _ => by kernel_rfl)

end Go.Proofs.Ytndiilfjeconbaa.Tab
