/-
  Ways through the code, part 0.
-/
import Derived.Test.YtndiilfjeconbaaSamH
namespace Go.Proofs.Ytndiilfjeconbaa.Tab
open Go.Sim
set_option maxRecDepth 100000
set_option linter.unusedSimpArgs false
set_option maxHeartbeats 4000000

theorem sameQ4_4 (val : Nat → Int) : SameQ 4 4 val :=
  have h : Holds val [] := holds_nil
  by_e2 0 1 h (fun h => by_way (conj 100 200) (.at (conj 100 200) true) (.at (conj 100 200) false) rfl rfl h (fun h => by_way (conj 111 211) (.at (conj 111 211) true) (.at (conj 111 211) false) rfl rfl h (fun h => by_way (conj 122 222) (.at (conj 122 222) true) (.at (conj 122 222) false) rfl rfl h (fun h => by_way (conj 133 233) (.at (conj 133 233) true) (.at (conj 133 233) false) rfl rfl h (fun h => leafS h (fun _ => by kernel_rfl))
 (fun h => leafS h (fun _ => by kernel_rfl)))
 (fun h => leafS h (fun _ => by kernel_rfl)))
 (fun h => leafS h (fun _ => by kernel_rfl)))
 (fun h => leafS h (fun _ => by kernel_rfl)))
 (fun h => leafS h (fun _ => by kernel_rfl))


theorem sameQ5_2 (val : Nat → Int) : SameQ 5 2 val :=
  have h : Holds val [] := holds_nil
  by_e2 0 1 h (fun h => by_way (conj 100 200) (.at (conj 100 200) true) (.at (conj 100 200) false) rfl rfl h (fun h => by_way (conj 111 211) (.at (conj 111 211) true) (.at (conj 111 211) false) rfl rfl h (fun h => leafS h (fun _ => by kernel_rfl))
 (fun h => leafS h (fun _ => by kernel_rfl)))
 (fun h => leafS h (fun _ => by kernel_rfl)))
 (fun h => leafS h (fun _ => by kernel_rfl))


theorem sameQ1_2 (val : Nat → Int) : SameQ 1 2 val :=
  have h : Holds val [] := holds_nil
  by_e2 0 1 h (fun h => leafS h (fun _ => by kernel_rfl))
 (fun h => leafS h (fun _ => by kernel_rfl))


theorem sameQ1_4 (val : Nat → Int) : SameQ 1 4 val :=
  have h : Holds val [] := holds_nil
  by_e2 0 1 h (fun h => leafS h (fun _ => by kernel_rfl))
 (fun h => leafS h (fun _ => by kernel_rfl))


theorem sameQ1_9 (val : Nat → Int) : SameQ 1 9 val :=
  have h : Holds val [] := holds_nil
  by_e2 0 1 h (fun h => leafS h (fun _ => by kernel_rfl))
 (fun h => leafS h (fun _ => by kernel_rfl))


theorem sameQ2_6 (val : Nat → Int) : SameQ 2 6 val :=
  have h : Holds val [] := holds_nil
  by_e2 0 1 h (fun h => leafS h (fun _ => by kernel_rfl))
 (fun h => leafS h (fun _ => by kernel_rfl))


theorem sameQ3_2 (val : Nat → Int) : SameQ 3 2 val :=
  have h : Holds val [] := holds_nil
  by_e2 0 1 h (fun h => leafS h (fun _ => by kernel_rfl))
 (fun h => leafS h (fun _ => by kernel_rfl))


theorem sameQ3_9 (val : Nat → Int) : SameQ 3 9 val :=
  have h : Holds val [] := holds_nil
  by_e2 0 1 h (fun h => leafS h (fun _ => by kernel_rfl))
 (fun h => leafS h (fun _ => by kernel_rfl))


theorem sameQ4_5 (val : Nat → Int) : SameQ 4 5 val :=
  have h : Holds val [] := holds_nil
  by_e2 0 1 h (fun h => leafS h (fun _ => by kernel_rfl))
 (fun h => leafS h (fun _ => by kernel_rfl))


theorem sameQ5_1 (val : Nat → Int) : SameQ 5 1 val :=
  have h : Holds val [] := holds_nil
  by_e2 0 1 h (fun h => leafS h (fun _ => by kernel_rfl))
 (fun h => leafS h (fun _ => by kernel_rfl))


theorem sameQ5_8 (val : Nat → Int) : SameQ 5 8 val :=
  have h : Holds val [] := holds_nil
  by_e2 0 1 h (fun h => leafS h (fun _ => by kernel_rfl))
 (fun h => leafS h (fun _ => by kernel_rfl))


theorem sameQ6_4 (val : Nat → Int) : SameQ 6 4 val :=
  have h : Holds val [] := holds_nil
  by_e2 0 1 h (fun h => leafS h (fun _ => by kernel_rfl))
 (fun h => leafS h (fun _ => by kernel_rfl))


theorem sameQ8_1 (val : Nat → Int) : SameQ 8 1 val :=
  have h : Holds val [] := holds_nil
  by_e2 0 1 h (fun h => leafS h (fun _ => by kernel_rfl))
 (fun h => leafS h (fun _ => by kernel_rfl))


theorem sameQ8_5 (val : Nat → Int) : SameQ 8 5 val :=
  have h : Holds val [] := holds_nil
  by_e2 0 1 h (fun h => leafS h (fun _ => by kernel_rfl))
 (fun h => leafS h (fun _ => by kernel_rfl))


theorem sameQ9_1 (val : Nat → Int) : SameQ 9 1 val :=
  have h : Holds val [] := holds_nil
  by_e2 0 1 h (fun h => leafS h (fun _ => by kernel_rfl))
 (fun h => leafS h (fun _ => by kernel_rfl))


theorem sameQ9_5 (val : Nat → Int) : SameQ 9 5 val :=
  have h : Holds val [] := holds_nil
  by_e2 0 1 h (fun h => leafS h (fun _ => by kernel_rfl))
 (fun h => leafS h (fun _ => by kernel_rfl))


theorem sameQ0_0 (val : Nat → Int) (h : Holds val [.ne (.a 6) 0, .ne (.a 7) 0]) : SameQ 0 0 val := leafS h (fun _ => by kernel_rfl)


theorem sameQ0_3 (val : Nat → Int) (h : Holds val [.ne (.a 6) 0]) : SameQ 0 3 val := leafS h (fun _ => by kernel_rfl)


theorem sameQ0_7 (val : Nat → Int) (h : Holds val [.ne (.a 6) 0, .ne (.a 7) 0]) : SameQ 0 7 val := leafS h (fun _ => by kernel_rfl)


theorem sameQ1_7 (val : Nat → Int) (h : Holds val [.ne (.a 7) 0]) : SameQ 1 7 val := leafS h (fun _ => by kernel_rfl)


theorem sameQ3_7 (val : Nat → Int) (h : Holds val [.ne (.a 7) 0]) : SameQ 3 7 val := leafS h (fun _ => by kernel_rfl)


theorem sameQ5_7 (val : Nat → Int) (h : Holds val [.ne (.a 7) 0]) : SameQ 5 7 val := leafS h (fun _ => by kernel_rfl)


theorem sameQ7_1 (val : Nat → Int) (h : Holds val [.ne (.a 6) 0]) : SameQ 7 1 val := leafS h (fun _ => by kernel_rfl)


theorem sameQ7_5 (val : Nat → Int) (h : Holds val [.ne (.a 6) 0]) : SameQ 7 5 val := leafS h (fun _ => by kernel_rfl)


theorem sameQ7_9 (val : Nat → Int) (h : Holds val [.ne (.a 6) 0]) : SameQ 7 9 val := leafS h (fun _ => by kernel_rfl)


theorem sameQ9_7 (val : Nat → Int) (h : Holds val [.ne (.a 7) 0]) : SameQ 9 7 val := leafS h (fun _ => by kernel_rfl)

end Go.Proofs.Ytndiilfjeconbaa.Tab
