/-
  The law 'ModrmFound': ways, part 1.
-/
import Derived.Test.YtbenfglhomiocaaFndH
namespace Go.Proofs.Ytbenfglhomiocaa.Fnd
open Go.Sim Go.Proofs.Ytbenfglhomiocaa.Tab
set_option maxRecDepth 100000
set_option linter.unusedSimpArgs false

theorem f_0_0_0_4_0_5_5_1_1_1 : FA ⟨0, 0, 0, 4, 0, 5, 5, true, true, true⟩ := fun _ h => by_eq 6 0 h (fun h => by_split (.and (.eq (.wrap .u8 (.or .i64 (.or .i64 (.c 128) (.wrap .i64 (.shl (.a 10) 3))) (.c 4))) (.a 100)) (.and (.eq (.c 37) (.a 101)) (.and (.eq (.a 102) (.a 102)) (.and (.eq (.a 103) (.a 103)) (.and (.eq (.a 104) (.a 104)) (.eq (.a 105) (.a 105))))))) h (fun h => lF h (by kernel_rfl)) (fun h => lF h (by kernel_rfl))) (fun h => by_split (.and (.eq (.wrap .u8 (.or .i64 (.or .i64 (.c 128) (.wrap .i64 (.shl (.a 10) 3))) (.c 4))) (.a 100)) (.and (.eq (.c 37) (.a 101)) (.and (.eq (.a 102) (.a 102)) (.and (.eq (.a 103) (.a 103)) (.and (.eq (.a 104) (.a 104)) (.eq (.a 105) (.a 105))))))) h (fun h => lF h (by kernel_rfl)) (fun h => lF h (by kernel_rfl)))

theorem f_0_0_1_4_0_8_5_1_1_0 : FA ⟨0, 0, 1, 4, 0, 8, 5, true, true, false⟩ := fun _ h => by_eq 5 0 h (fun h => lF h (by kernel_rfl)) (fun h => lF h (by kernel_rfl))

theorem f_0_0_1_4_3_8_4_1_1_0 : FA ⟨0, 0, 1, 4, 3, 8, 4, true, true, false⟩ := fun _ h => by_eq 5 0 h (fun h => lF h (by kernel_rfl)) (fun h => lF h (by kernel_rfl))

theorem f_0_0_2_4_0_4_5_1_1_1 : FA ⟨0, 0, 2, 4, 0, 4, 5, true, true, true⟩ := fun _ h => by_eq 6 0 h (fun h => lF h (by kernel_rfl)) (fun h => lF h (by kernel_rfl))

theorem f_0_0_2_4_0_5_8_1_1_1 : FA ⟨0, 0, 2, 4, 0, 5, 8, true, true, true⟩ := fun _ h => by_eq 6 0 h (fun h => lF h (by kernel_rfl)) (fun h => lF h (by kernel_rfl))

theorem f_0_0_2_4_1_8_4_1_1_1 : FA ⟨0, 0, 2, 4, 1, 8, 4, true, true, true⟩ := fun _ h => by_eq 6 0 h (fun h => lF h (by kernel_rfl)) (fun h => lF h (by kernel_rfl))

theorem f_0_0_2_4_2_8_5_1_1_1 : FA ⟨0, 0, 2, 4, 2, 8, 5, true, true, true⟩ := fun _ h => by_eq 6 0 h (fun h => lF h (by kernel_rfl)) (fun h => lF h (by kernel_rfl))

theorem f_0_0_2_4_3_8_8_1_1_1 : FA ⟨0, 0, 2, 4, 3, 8, 8, true, true, true⟩ := fun _ h => by_eq 6 0 h (fun h => lF h (by kernel_rfl)) (fun h => lF h (by kernel_rfl))

theorem f_0_1_1_4_0_5_4_1_1_0 : FA ⟨0, 1, 1, 4, 0, 5, 4, true, true, false⟩ := fun _ h => by_eq 5 0 h (fun h => lF h (by kernel_rfl)) (fun h => lF h (by kernel_rfl))

theorem f_0_1_1_4_1_8_8_1_1_0 : FA ⟨0, 1, 1, 4, 1, 8, 8, true, true, false⟩ := fun _ h => by_eq 5 0 h (fun h => lF h (by kernel_rfl)) (fun h => lF h (by kernel_rfl))

theorem f_0_1_1_8_0_0_0_0_1_0 : FA ⟨0, 1, 1, 8, 0, 0, 0, false, true, false⟩ := fun _ h => by_eq 5 0 h (fun h => lF h (by kernel_rfl)) (fun h => lF h (by kernel_rfl))

theorem f_0_1_2_4_0_5_4_1_1_1 : FA ⟨0, 1, 2, 4, 0, 5, 4, true, true, true⟩ := fun _ h => by_eq 6 0 h (fun h => lF h (by kernel_rfl)) (fun h => lF h (by kernel_rfl))

theorem f_0_1_2_4_0_8_5_1_1_1 : FA ⟨0, 1, 2, 4, 0, 8, 5, true, true, true⟩ := fun _ h => by_eq 6 0 h (fun h => lF h (by kernel_rfl)) (fun h => lF h (by kernel_rfl))

theorem f_0_1_2_4_1_8_8_1_1_1 : FA ⟨0, 1, 2, 4, 1, 8, 8, true, true, true⟩ := fun _ h => by_eq 6 0 h (fun h => lF h (by kernel_rfl)) (fun h => lF h (by kernel_rfl))

theorem f_0_1_2_4_3_8_4_1_1_1 : FA ⟨0, 1, 2, 4, 3, 8, 4, true, true, true⟩ := fun _ h => by_eq 6 0 h (fun h => lF h (by kernel_rfl)) (fun h => lF h (by kernel_rfl))

theorem f_0_1_2_8_0_0_0_0_1_1 : FA ⟨0, 1, 2, 8, 0, 0, 0, false, true, true⟩ := fun _ h => by_eq 6 0 h (fun h => lF h (by kernel_rfl)) (fun h => lF h (by kernel_rfl))

theorem f_1_0_1_4_0_4_5_1_1_0 : FA ⟨1, 0, 1, 4, 0, 4, 5, true, true, false⟩ := fun _ h => by_eq 5 0 h (fun h => lF h (by kernel_rfl)) (fun h => lF h (by kernel_rfl))

theorem f_1_0_1_4_1_4_4_1_1_0 : FA ⟨1, 0, 1, 4, 1, 4, 4, true, true, false⟩ := fun _ h => by_eq 5 0 h (fun h => lF h (by kernel_rfl)) (fun h => lF h (by kernel_rfl))

theorem f_1_0_1_4_2_4_8_1_1_0 : FA ⟨1, 0, 1, 4, 2, 4, 8, true, true, false⟩ := fun _ h => by_eq 5 0 h (fun h => lF h (by kernel_rfl)) (fun h => lF h (by kernel_rfl))

theorem f_1_0_1_4_3_8_5_1_1_0 : FA ⟨1, 0, 1, 4, 3, 8, 5, true, true, false⟩ := fun _ h => by_eq 5 0 h (fun h => lF h (by kernel_rfl)) (fun h => lF h (by kernel_rfl))

theorem f_1_0_2_4_0_5_4_1_1_0 : FA ⟨1, 0, 2, 4, 0, 5, 4, true, true, false⟩ := fun _ h => by_eq 6 0 h (fun h => lF h (by kernel_rfl)) (fun h => lF h (by kernel_rfl))

theorem f_1_0_2_4_0_8_5_1_1_0 : FA ⟨1, 0, 2, 4, 0, 8, 5, true, true, false⟩ := fun _ h => by_eq 6 0 h (fun h => lF h (by kernel_rfl)) (fun h => lF h (by kernel_rfl))

theorem f_1_0_2_4_1_4_8_1_1_0 : FA ⟨1, 0, 2, 4, 1, 4, 8, true, true, false⟩ := fun _ h => by_eq 6 0 h (fun h => lF h (by kernel_rfl)) (fun h => lF h (by kernel_rfl))

theorem f_1_0_2_4_2_4_4_1_1_0 : FA ⟨1, 0, 2, 4, 2, 4, 4, true, true, false⟩ := fun _ h => by_eq 6 0 h (fun h => lF h (by kernel_rfl)) (fun h => lF h (by kernel_rfl))

theorem f_1_0_2_4_2_8_5_1_1_0 : FA ⟨1, 0, 2, 4, 2, 8, 5, true, true, false⟩ := fun _ h => by_eq 6 0 h (fun h => lF h (by kernel_rfl)) (fun h => lF h (by kernel_rfl))

theorem f_1_0_2_4_3_4_8_1_1_0 : FA ⟨1, 0, 2, 4, 3, 4, 8, true, true, false⟩ := fun _ h => by_eq 6 0 h (fun h => lF h (by kernel_rfl)) (fun h => lF h (by kernel_rfl))

theorem f_1_1_1_4_0_4_4_1_1_0 : FA ⟨1, 1, 1, 4, 0, 4, 4, true, true, false⟩ := fun _ h => by_eq 5 0 h (fun h => lF h (by kernel_rfl)) (fun h => lF h (by kernel_rfl))

theorem f_1_1_1_4_0_8_8_1_1_0 : FA ⟨1, 1, 1, 4, 0, 8, 8, true, true, false⟩ := fun _ h => by_eq 5 0 h (fun h => lF h (by kernel_rfl)) (fun h => lF h (by kernel_rfl))

theorem f_1_1_1_4_2_4_5_1_1_0 : FA ⟨1, 1, 1, 4, 2, 4, 5, true, true, false⟩ := fun _ h => by_eq 5 0 h (fun h => lF h (by kernel_rfl)) (fun h => lF h (by kernel_rfl))

theorem f_1_1_1_4_3_8_4_1_1_0 : FA ⟨1, 1, 1, 4, 3, 8, 4, true, true, false⟩ := fun _ h => by_eq 5 0 h (fun h => lF h (by kernel_rfl)) (fun h => lF h (by kernel_rfl))

theorem f_1_1_2_4_0_4_8_1_1_1 : FA ⟨1, 1, 2, 4, 0, 4, 8, true, true, true⟩ := fun _ h => by_eq 6 0 h (fun h => lF h (by kernel_rfl)) (fun h => lF h (by kernel_rfl))

theorem f_1_1_2_4_0_8_4_1_1_1 : FA ⟨1, 1, 2, 4, 0, 8, 4, true, true, true⟩ := fun _ h => by_eq 6 0 h (fun h => lF h (by kernel_rfl)) (fun h => lF h (by kernel_rfl))

theorem f_1_1_2_4_1_4_5_1_1_1 : FA ⟨1, 1, 2, 4, 1, 4, 5, true, true, true⟩ := fun _ h => by_eq 6 0 h (fun h => lF h (by kernel_rfl)) (fun h => lF h (by kernel_rfl))

theorem f_1_1_2_4_1_8_8_1_1_1 : FA ⟨1, 1, 2, 4, 1, 8, 8, true, true, true⟩ := fun _ h => by_eq 6 0 h (fun h => lF h (by kernel_rfl)) (fun h => lF h (by kernel_rfl))

theorem f_1_1_2_4_2_8_4_1_1_1 : FA ⟨1, 1, 2, 4, 2, 8, 4, true, true, true⟩ := fun _ h => by_eq 6 0 h (fun h => lF h (by kernel_rfl)) (fun h => lF h (by kernel_rfl))

theorem f_1_1_2_4_3_4_5_1_1_1 : FA ⟨1, 1, 2, 4, 3, 4, 5, true, true, true⟩ := fun _ h => by_eq 6 0 h (fun h => lF h (by kernel_rfl)) (fun h => lF h (by kernel_rfl))

theorem f_1_1_2_4_3_8_8_1_1_1 : FA ⟨1, 1, 2, 4, 3, 8, 8, true, true, true⟩ := fun _ h => by_eq 6 0 h (fun h => lF h (by kernel_rfl)) (fun h => lF h (by kernel_rfl))

theorem f_0_0_0_4_1_4_4_1_1_0 : FA ⟨0, 0, 0, 4, 1, 4, 4, true, true, false⟩ := fun _ h => lF h (by kernel_rfl)

theorem f_0_0_0_4_1_8_5_1_1_1 : FA ⟨0, 0, 0, 4, 1, 8, 5, true, true, true⟩ := fun _ h => lF h (by kernel_rfl)

theorem f_0_0_0_4_2_8_5_1_0_0 : FA ⟨0, 0, 0, 4, 2, 8, 5, true, false, false⟩ := fun _ h => lF h (by kernel_rfl)

theorem f_0_0_0_4_3_4_8_1_1_0 : FA ⟨0, 0, 0, 4, 3, 4, 8, true, true, false⟩ := fun _ h => lF h (by kernel_rfl)

theorem f_0_0_0_5_0_0_0_0_1_1 : FA ⟨0, 0, 0, 5, 0, 0, 0, false, true, true⟩ := fun _ h => lF h (by kernel_rfl)

theorem f_0_0_1_4_0_5_8_1_0_0 : FA ⟨0, 0, 1, 4, 0, 5, 8, true, false, false⟩ := fun _ h => lF h (by kernel_rfl)

theorem f_0_0_1_4_1_4_8_1_0_0 : FA ⟨0, 0, 1, 4, 1, 4, 8, true, false, false⟩ := fun _ h => lF h (by kernel_rfl)

theorem f_0_0_1_4_2_4_5_1_1_0 : FA ⟨0, 0, 1, 4, 2, 4, 5, true, true, false⟩ := fun _ h => lF h (by kernel_rfl)

theorem f_0_0_1_4_3_4_5_1_0_0 : FA ⟨0, 0, 1, 4, 3, 4, 5, true, false, false⟩ := fun _ h => lF h (by kernel_rfl)

theorem f_0_0_1_8_0_0_0_0_0_0 : FA ⟨0, 0, 1, 8, 0, 0, 0, false, false, false⟩ := fun _ h => lF h (by kernel_rfl)

theorem f_0_0_2_4_0_8_4_1_0_0 : FA ⟨0, 0, 2, 4, 0, 8, 4, true, false, false⟩ := fun _ h => lF h (by kernel_rfl)

theorem f_0_0_2_4_1_4_5_1_1_1 : FA ⟨0, 0, 2, 4, 1, 4, 5, true, true, true⟩ := fun _ h => lF h (by kernel_rfl)

theorem f_0_0_2_4_2_4_4_1_1_0 : FA ⟨0, 0, 2, 4, 2, 4, 4, true, true, false⟩ := fun _ h => lF h (by kernel_rfl)

theorem f_0_0_2_4_2_8_4_1_0_0 : FA ⟨0, 0, 2, 4, 2, 8, 4, true, false, false⟩ := fun _ h => lF h (by kernel_rfl)

theorem f_0_0_2_4_3_4_5_1_1_1 : FA ⟨0, 0, 2, 4, 3, 4, 5, true, true, true⟩ := fun _ h => lF h (by kernel_rfl)

theorem f_0_0_2_8_0_0_0_0_0_0 : FA ⟨0, 0, 2, 8, 0, 0, 0, false, false, false⟩ := fun _ h => lF h (by kernel_rfl)

theorem f_0_1_0_4_0_5_5_1_0_0 : FA ⟨0, 1, 0, 4, 0, 5, 5, true, false, false⟩ := fun _ h => lF h (by kernel_rfl)

theorem f_0_1_0_4_0_8_8_1_1_0 : FA ⟨0, 1, 0, 4, 0, 8, 8, true, true, false⟩ := fun _ h => lF h (by kernel_rfl)

theorem f_0_1_0_4_1_8_5_1_1_0 : FA ⟨0, 1, 0, 4, 1, 8, 5, true, true, false⟩ := fun _ h => lF h (by kernel_rfl)

theorem f_0_1_0_4_2_8_4_1_1_0 : FA ⟨0, 1, 0, 4, 2, 8, 4, true, true, false⟩ := fun _ h => lF h (by kernel_rfl)

theorem f_0_1_0_4_3_4_5_1_1_1 : FA ⟨0, 1, 0, 4, 3, 4, 5, true, true, true⟩ := fun _ h => lF h (by kernel_rfl)

theorem f_0_1_0_5_0_0_0_0_1_0 : FA ⟨0, 1, 0, 5, 0, 0, 0, false, true, false⟩ := fun _ h => lF h (by kernel_rfl)

theorem f_0_1_1_4_0_5_5_1_0_0 : FA ⟨0, 1, 1, 4, 0, 5, 5, true, false, false⟩ := fun _ h => lF h (by kernel_rfl)

theorem f_0_1_1_4_1_4_5_1_1_0 : FA ⟨0, 1, 1, 4, 1, 4, 5, true, true, false⟩ := fun _ h => lF h (by kernel_rfl)

theorem f_0_1_1_4_2_4_5_1_0_0 : FA ⟨0, 1, 1, 4, 2, 4, 5, true, false, false⟩ := fun _ h => lF h (by kernel_rfl)

theorem f_0_1_1_4_3_4_4_1_1_0 : FA ⟨0, 1, 1, 4, 3, 4, 4, true, true, false⟩ := fun _ h => lF h (by kernel_rfl)

theorem f_0_1_1_5_0_0_0_0_0_0 : FA ⟨0, 1, 1, 5, 0, 0, 0, false, false, false⟩ := fun _ h => lF h (by kernel_rfl)

theorem f_0_1_2_4_0_5_8_1_0_0 : FA ⟨0, 1, 2, 4, 0, 5, 8, true, false, false⟩ := fun _ h => lF h (by kernel_rfl)

theorem f_0_1_2_4_1_4_5_1_1_0 : FA ⟨0, 1, 2, 4, 1, 4, 5, true, true, false⟩ := fun _ h => lF h (by kernel_rfl)

theorem f_0_1_2_4_2_4_4_1_0_0 : FA ⟨0, 1, 2, 4, 2, 4, 4, true, false, false⟩ := fun _ h => lF h (by kernel_rfl)

theorem f_0_1_2_4_2_4_8_1_1_1 : FA ⟨0, 1, 2, 4, 2, 4, 8, true, true, true⟩ := fun _ h => lF h (by kernel_rfl)

theorem f_0_1_2_4_3_4_5_1_1_0 : FA ⟨0, 1, 2, 4, 3, 4, 5, true, true, false⟩ := fun _ h => lF h (by kernel_rfl)

theorem f_0_1_2_5_0_0_0_0_0_0 : FA ⟨0, 1, 2, 5, 0, 0, 0, false, false, false⟩ := fun _ h => lF h (by kernel_rfl)

theorem f_1_0_0_4_0_5_5_1_0_0 : FA ⟨1, 0, 0, 4, 0, 5, 5, true, false, false⟩ := fun _ h => lF h (by kernel_rfl)

theorem f_1_0_0_4_1_4_5_1_1_1 : FA ⟨1, 0, 0, 4, 1, 4, 5, true, true, true⟩ := fun _ h => lF h (by kernel_rfl)

theorem f_1_0_0_4_2_4_5_1_0_0 : FA ⟨1, 0, 0, 4, 2, 4, 5, true, false, false⟩ := fun _ h => lF h (by kernel_rfl)

theorem f_1_0_0_4_2_8_8_1_1_0 : FA ⟨1, 0, 0, 4, 2, 8, 8, true, true, false⟩ := fun _ h => lF h (by kernel_rfl)

theorem f_1_0_0_4_3_8_5_1_1_0 : FA ⟨1, 0, 0, 4, 3, 8, 5, true, true, false⟩ := fun _ h => lF h (by kernel_rfl)

theorem f_1_0_1_4_0_4_4_1_0_0 : FA ⟨1, 0, 1, 4, 0, 4, 4, true, false, false⟩ := fun _ h => lF h (by kernel_rfl)

theorem f_1_0_1_4_0_8_8_1_0_0 : FA ⟨1, 0, 1, 4, 0, 8, 8, true, false, false⟩ := fun _ h => lF h (by kernel_rfl)

theorem f_1_0_1_4_2_4_5_1_0_0 : FA ⟨1, 0, 1, 4, 2, 4, 5, true, false, false⟩ := fun _ h => lF h (by kernel_rfl)

theorem f_1_0_1_4_3_8_4_1_0_0 : FA ⟨1, 0, 1, 4, 3, 8, 4, true, false, false⟩ := fun _ h => lF h (by kernel_rfl)

theorem f_1_0_2_4_0_4_4_1_0_0 : FA ⟨1, 0, 2, 4, 0, 4, 4, true, false, false⟩ := fun _ h => lF h (by kernel_rfl)

theorem f_1_0_2_4_0_8_8_1_0_0 : FA ⟨1, 0, 2, 4, 0, 8, 8, true, false, false⟩ := fun _ h => lF h (by kernel_rfl)

theorem f_1_0_2_4_2_4_5_1_0_0 : FA ⟨1, 0, 2, 4, 2, 4, 5, true, false, false⟩ := fun _ h => lF h (by kernel_rfl)

theorem f_1_0_2_4_3_8_4_1_0_0 : FA ⟨1, 0, 2, 4, 3, 8, 4, true, false, false⟩ := fun _ h => lF h (by kernel_rfl)

theorem f_1_0_2_8_0_0_0_0_1_1 : FA ⟨1, 0, 2, 8, 0, 0, 0, false, true, true⟩ := fun _ h => lF h (by kernel_rfl)

theorem f_1_1_0_4_0_5_4_1_1_0 : FA ⟨1, 1, 0, 4, 0, 5, 4, true, true, false⟩ := fun _ h => lF h (by kernel_rfl)

theorem f_1_1_0_4_0_8_5_1_1_1 : FA ⟨1, 1, 0, 4, 0, 8, 5, true, true, true⟩ := fun _ h => lF h (by kernel_rfl)

theorem f_1_1_0_4_1_8_5_1_0_0 : FA ⟨1, 1, 0, 4, 1, 8, 5, true, false, false⟩ := fun _ h => lF h (by kernel_rfl)

theorem f_1_1_0_4_2_4_8_1_1_0 : FA ⟨1, 1, 0, 4, 2, 4, 8, true, true, false⟩ := fun _ h => lF h (by kernel_rfl)

theorem f_1_1_0_4_3_4_5_1_1_0 : FA ⟨1, 1, 0, 4, 3, 4, 5, true, true, false⟩ := fun _ h => lF h (by kernel_rfl)

theorem f_1_1_0_5_0_0_0_0_0_0 : FA ⟨1, 1, 0, 5, 0, 0, 0, false, false, false⟩ := fun _ h => lF h (by kernel_rfl)

theorem f_1_1_1_4_0_5_4_1_0_0 : FA ⟨1, 1, 1, 4, 0, 5, 4, true, false, false⟩ := fun _ h => lF h (by kernel_rfl)

theorem f_1_1_1_4_1_4_8_1_0_0 : FA ⟨1, 1, 1, 4, 1, 4, 8, true, false, false⟩ := fun _ h => lF h (by kernel_rfl)

theorem f_1_1_1_4_2_8_5_1_0_0 : FA ⟨1, 1, 1, 4, 2, 8, 5, true, false, false⟩ := fun _ h => lF h (by kernel_rfl)

theorem f_1_1_1_5_0_0_0_0_0_0 : FA ⟨1, 1, 1, 5, 0, 0, 0, false, false, false⟩ := fun _ h => lF h (by kernel_rfl)

theorem f_1_1_2_4_0_5_4_1_0_0 : FA ⟨1, 1, 2, 4, 0, 5, 4, true, false, false⟩ := fun _ h => lF h (by kernel_rfl)

theorem f_1_1_2_4_1_4_8_1_0_0 : FA ⟨1, 1, 2, 4, 1, 4, 8, true, false, false⟩ := fun _ h => lF h (by kernel_rfl)

theorem f_1_1_2_4_2_8_5_1_0_0 : FA ⟨1, 1, 2, 4, 2, 8, 5, true, false, false⟩ := fun _ h => lF h (by kernel_rfl)

theorem f_1_1_2_5_0_0_0_0_0_0 : FA ⟨1, 1, 2, 5, 0, 0, 0, false, false, false⟩ := fun _ h => lF h (by kernel_rfl)

end Go.Proofs.Ytbenfglhomiocaa.Fnd
