/-
  modrm.Read: ways, part 2.
-/
import Derived.Test.YtbenfglhomiocaaBrH
namespace Go.Proofs.Ytbenfglhomiocaa.Br
open Go.Sim Go.Proofs.Ytbenfglhomiocaa.Tab
set_option maxRecDepth 100000
set_option linter.unusedSimpArgs false

theorem r_1_0_0_0_0_0_0_0 : RA ⟨1, 0, 0, 0, 0, 0, 0⟩ 0 := fun _ h => lR h (by kernel_rfl)

theorem r_3_0_0_1_0_8_0_0 : RA ⟨3, 0, 0, 1, 0, 8, 0⟩ 0 := fun _ h => lR h (by kernel_rfl)

theorem r_4_1_0_0_0_5_0_0 : RA ⟨4, 1, 0, 0, 0, 5, 0⟩ 0 := fun _ h => lR h (by kernel_rfl)

theorem r_3_2_0_0_0_8_0_0 : RA ⟨3, 2, 0, 0, 0, 8, 0⟩ 0 := fun _ h => lR h (by kernel_rfl)

theorem r_4_2_0_1_0_8_0_0 : RA ⟨4, 2, 0, 1, 0, 8, 0⟩ 0 := fun _ h => lR h (by kernel_rfl)

theorem r_6_0_0_1_0_8_8_0 : RA ⟨6, 0, 0, 1, 0, 8, 8⟩ 0 := fun _ h => lR h (by kernel_rfl)

theorem r_6_1_0_1_0_5_8_0 : RA ⟨6, 1, 0, 1, 0, 5, 8⟩ 0 := fun _ h => lR h (by kernel_rfl)

theorem r_6_2_0_1_0_5_8_0 : RA ⟨6, 2, 0, 1, 0, 5, 8⟩ 0 := fun _ h => lR h (by kernel_rfl)

theorem r_6_1_0_0_1_8_8_0 : RA ⟨6, 1, 0, 0, 1, 8, 8⟩ 0 := fun _ h => lR h (by kernel_rfl)

theorem r_6_2_0_0_1_8_8_0 : RA ⟨6, 2, 0, 0, 1, 8, 8⟩ 0 := fun _ h => lR h (by kernel_rfl)

theorem r_5_0_0_0_2_0_8_0 : RA ⟨5, 0, 0, 0, 2, 0, 8⟩ 0 := fun _ h => lR h (by kernel_rfl)

theorem r_6_1_0_0_2_5_8_0 : RA ⟨6, 1, 0, 0, 2, 5, 8⟩ 0 := fun _ h => lR h (by kernel_rfl)

theorem r_6_2_0_0_2_5_8_0 : RA ⟨6, 2, 0, 0, 2, 5, 8⟩ 0 := fun _ h => lR h (by kernel_rfl)

theorem r_6_0_0_0_3_8_8_0 : RA ⟨6, 0, 0, 0, 3, 8, 8⟩ 0 := fun _ h => lR h (by kernel_rfl)

theorem r_6_1_0_1_3_8_8_0 : RA ⟨6, 1, 0, 1, 3, 8, 8⟩ 0 := fun _ h => lR h (by kernel_rfl)

theorem r_6_2_0_1_3_8_8_0 : RA ⟨6, 2, 0, 1, 3, 8, 8⟩ 0 := fun _ h => lR h (by kernel_rfl)

theorem r_6_0_1_1_0_8_8_0 : RA ⟨6, 0, 1, 1, 0, 8, 8⟩ 0 := fun _ h => lR h (by kernel_rfl)

theorem r_6_1_1_1_0_5_8_0 : RA ⟨6, 1, 1, 1, 0, 5, 8⟩ 0 := fun _ h => lR h (by kernel_rfl)

theorem r_6_2_1_1_0_5_8_0 : RA ⟨6, 2, 1, 1, 0, 5, 8⟩ 0 := fun _ h => lR h (by kernel_rfl)

theorem r_6_1_1_0_1_8_8_0 : RA ⟨6, 1, 1, 0, 1, 8, 8⟩ 0 := fun _ h => lR h (by kernel_rfl)

theorem r_6_2_1_0_1_8_8_0 : RA ⟨6, 2, 1, 0, 1, 8, 8⟩ 0 := fun _ h => lR h (by kernel_rfl)

theorem r_5_0_1_0_2_0_8_0 : RA ⟨5, 0, 1, 0, 2, 0, 8⟩ 0 := fun _ h => lR h (by kernel_rfl)

theorem r_6_1_1_0_2_5_8_0 : RA ⟨6, 1, 1, 0, 2, 5, 8⟩ 0 := fun _ h => lR h (by kernel_rfl)

theorem r_6_2_1_0_2_5_8_0 : RA ⟨6, 2, 1, 0, 2, 5, 8⟩ 0 := fun _ h => lR h (by kernel_rfl)

theorem r_6_0_1_0_3_8_8_0 : RA ⟨6, 0, 1, 0, 3, 8, 8⟩ 0 := fun _ h => lR h (by kernel_rfl)

theorem r_6_1_1_1_3_8_8_0 : RA ⟨6, 1, 1, 1, 3, 8, 8⟩ 0 := fun _ h => lR h (by kernel_rfl)

theorem r_6_2_1_1_3_8_8_0 : RA ⟨6, 2, 1, 1, 3, 8, 8⟩ 0 := fun _ h => lR h (by kernel_rfl)

theorem r_6_0_1_1_0_8_4_0 : RA ⟨6, 0, 1, 1, 0, 8, 4⟩ 0 := fun _ h => lR h (by kernel_rfl)

theorem r_6_1_1_1_0_5_4_0 : RA ⟨6, 1, 1, 1, 0, 5, 4⟩ 0 := fun _ h => lR h (by kernel_rfl)

theorem r_6_2_1_1_0_5_4_0 : RA ⟨6, 2, 1, 1, 0, 5, 4⟩ 0 := fun _ h => lR h (by kernel_rfl)

theorem r_6_1_1_0_1_8_4_0 : RA ⟨6, 1, 1, 0, 1, 8, 4⟩ 0 := fun _ h => lR h (by kernel_rfl)

theorem r_6_2_1_0_1_8_4_0 : RA ⟨6, 2, 1, 0, 1, 8, 4⟩ 0 := fun _ h => lR h (by kernel_rfl)

theorem r_5_0_1_0_2_0_4_0 : RA ⟨5, 0, 1, 0, 2, 0, 4⟩ 0 := fun _ h => lR h (by kernel_rfl)

theorem r_6_1_1_0_2_5_4_0 : RA ⟨6, 1, 1, 0, 2, 5, 4⟩ 0 := fun _ h => lR h (by kernel_rfl)

theorem r_6_2_1_0_2_5_4_0 : RA ⟨6, 2, 1, 0, 2, 5, 4⟩ 0 := fun _ h => lR h (by kernel_rfl)

theorem r_6_0_1_0_3_8_4_0 : RA ⟨6, 0, 1, 0, 3, 8, 4⟩ 0 := fun _ h => lR h (by kernel_rfl)

theorem r_6_1_1_1_3_8_4_0 : RA ⟨6, 1, 1, 1, 3, 8, 4⟩ 0 := fun _ h => lR h (by kernel_rfl)

theorem r_6_2_1_1_3_8_4_0 : RA ⟨6, 2, 1, 1, 3, 8, 4⟩ 0 := fun _ h => lR h (by kernel_rfl)

theorem r_3_1_0_0_0_8_0_3 : RA ⟨3, 1, 0, 0, 0, 8, 0⟩ 3 := fun _ h => lR h (by kernel_rfl)

theorem r_4_1_0_1_0_8_0_3 : RA ⟨4, 1, 0, 1, 0, 8, 0⟩ 3 := fun _ h => lR h (by kernel_rfl)

theorem r_4_2_0_0_0_5_0_3 : RA ⟨4, 2, 0, 0, 0, 5, 0⟩ 3 := fun _ h => lR h (by kernel_rfl)

theorem r_5_0_0_0_0_0_8_3 : RA ⟨5, 0, 0, 0, 0, 0, 8⟩ 3 := fun _ h => lR h (by kernel_rfl)

theorem r_6_1_0_1_0_5_8_3 : RA ⟨6, 1, 0, 1, 0, 5, 8⟩ 3 := fun _ h => lR h (by kernel_rfl)

theorem r_6_2_0_1_0_5_8_3 : RA ⟨6, 2, 0, 1, 0, 5, 8⟩ 3 := fun _ h => lR h (by kernel_rfl)

theorem r_6_1_0_1_1_8_8_3 : RA ⟨6, 1, 0, 1, 1, 8, 8⟩ 3 := fun _ h => lR h (by kernel_rfl)

theorem r_6_2_0_1_1_8_8_3 : RA ⟨6, 2, 0, 1, 1, 8, 8⟩ 3 := fun _ h => lR h (by kernel_rfl)

theorem r_6_1_0_0_2_5_8_3 : RA ⟨6, 1, 0, 0, 2, 5, 8⟩ 3 := fun _ h => lR h (by kernel_rfl)

theorem r_6_2_0_0_2_5_8_3 : RA ⟨6, 2, 0, 0, 2, 5, 8⟩ 3 := fun _ h => lR h (by kernel_rfl)

theorem r_6_1_0_0_3_8_8_3 : RA ⟨6, 1, 0, 0, 3, 8, 8⟩ 3 := fun _ h => lR h (by kernel_rfl)

theorem r_6_2_0_0_3_8_8_3 : RA ⟨6, 2, 0, 0, 3, 8, 8⟩ 3 := fun _ h => lR h (by kernel_rfl)

theorem r_5_0_1_0_0_0_8_3 : RA ⟨5, 0, 1, 0, 0, 0, 8⟩ 3 := fun _ h => lR h (by kernel_rfl)

theorem r_6_1_1_1_0_5_8_3 : RA ⟨6, 1, 1, 1, 0, 5, 8⟩ 3 := fun _ h => lR h (by kernel_rfl)

theorem r_6_2_1_1_0_5_8_3 : RA ⟨6, 2, 1, 1, 0, 5, 8⟩ 3 := fun _ h => lR h (by kernel_rfl)

theorem r_6_1_1_1_1_8_8_3 : RA ⟨6, 1, 1, 1, 1, 8, 8⟩ 3 := fun _ h => lR h (by kernel_rfl)

theorem r_6_2_1_1_1_8_8_3 : RA ⟨6, 2, 1, 1, 1, 8, 8⟩ 3 := fun _ h => lR h (by kernel_rfl)

theorem r_6_1_1_0_2_5_8_3 : RA ⟨6, 1, 1, 0, 2, 5, 8⟩ 3 := fun _ h => lR h (by kernel_rfl)

theorem r_6_2_1_0_2_5_8_3 : RA ⟨6, 2, 1, 0, 2, 5, 8⟩ 3 := fun _ h => lR h (by kernel_rfl)

theorem r_6_1_1_0_3_8_8_3 : RA ⟨6, 1, 1, 0, 3, 8, 8⟩ 3 := fun _ h => lR h (by kernel_rfl)

theorem r_6_2_1_0_3_8_8_3 : RA ⟨6, 2, 1, 0, 3, 8, 8⟩ 3 := fun _ h => lR h (by kernel_rfl)

theorem r_5_0_1_0_0_0_4_3 : RA ⟨5, 0, 1, 0, 0, 0, 4⟩ 3 := fun _ h => lR h (by kernel_rfl)

theorem r_6_1_1_1_0_5_4_3 : RA ⟨6, 1, 1, 1, 0, 5, 4⟩ 3 := fun _ h => lR h (by kernel_rfl)

theorem r_6_2_1_1_0_5_4_3 : RA ⟨6, 2, 1, 1, 0, 5, 4⟩ 3 := fun _ h => lR h (by kernel_rfl)

theorem r_6_1_1_1_1_8_4_3 : RA ⟨6, 1, 1, 1, 1, 8, 4⟩ 3 := fun _ h => lR h (by kernel_rfl)

theorem r_6_2_1_1_1_8_4_3 : RA ⟨6, 2, 1, 1, 1, 8, 4⟩ 3 := fun _ h => lR h (by kernel_rfl)

theorem r_6_1_1_0_2_5_4_3 : RA ⟨6, 1, 1, 0, 2, 5, 4⟩ 3 := fun _ h => lR h (by kernel_rfl)

theorem r_6_2_1_0_2_5_4_3 : RA ⟨6, 2, 1, 0, 2, 5, 4⟩ 3 := fun _ h => lR h (by kernel_rfl)

theorem r_6_1_1_0_3_8_4_3 : RA ⟨6, 1, 1, 0, 3, 8, 4⟩ 3 := fun _ h => lR h (by kernel_rfl)

theorem r_6_2_1_0_3_8_4_3 : RA ⟨6, 2, 1, 0, 3, 8, 4⟩ 3 := fun _ h => lR h (by kernel_rfl)

theorem r_1_0_0_0_0_0_0_2 : RA ⟨1, 0, 0, 0, 0, 0, 0⟩ 2 := fun _ h => lR h (by kernel_rfl)

theorem r_4_1_0_0_0_5_0_2 : RA ⟨4, 1, 0, 0, 0, 5, 0⟩ 2 := fun _ h => lR h (by kernel_rfl)

theorem r_4_2_0_0_0_5_0_2 : RA ⟨4, 2, 0, 0, 0, 5, 0⟩ 2 := fun _ h => lR h (by kernel_rfl)

theorem r_6_0_0_0_0_8_8_2 : RA ⟨6, 0, 0, 0, 0, 8, 8⟩ 2 := fun _ h => lR h (by kernel_rfl)

theorem r_6_1_0_1_0_8_8_2 : RA ⟨6, 1, 0, 1, 0, 8, 8⟩ 2 := fun _ h => lR h (by kernel_rfl)

theorem r_6_2_0_1_0_8_8_2 : RA ⟨6, 2, 0, 1, 0, 8, 8⟩ 2 := fun _ h => lR h (by kernel_rfl)

theorem r_6_0_0_1_1_8_8_2 : RA ⟨6, 0, 0, 1, 1, 8, 8⟩ 2 := fun _ h => lR h (by kernel_rfl)

theorem r_6_1_0_1_1_5_8_2 : RA ⟨6, 1, 0, 1, 1, 5, 8⟩ 2 := fun _ h => lR h (by kernel_rfl)

theorem r_6_2_0_1_1_5_8_2 : RA ⟨6, 2, 0, 1, 1, 5, 8⟩ 2 := fun _ h => lR h (by kernel_rfl)

theorem r_6_1_0_0_2_8_8_2 : RA ⟨6, 1, 0, 0, 2, 8, 8⟩ 2 := fun _ h => lR h (by kernel_rfl)

theorem r_6_2_0_0_2_8_8_2 : RA ⟨6, 2, 0, 0, 2, 8, 8⟩ 2 := fun _ h => lR h (by kernel_rfl)

theorem r_5_0_0_0_3_0_8_2 : RA ⟨5, 0, 0, 0, 3, 0, 8⟩ 2 := fun _ h => lR h (by kernel_rfl)

theorem r_6_1_0_0_3_5_8_2 : RA ⟨6, 1, 0, 0, 3, 5, 8⟩ 2 := fun _ h => lR h (by kernel_rfl)

theorem r_6_2_0_0_3_5_8_2 : RA ⟨6, 2, 0, 0, 3, 5, 8⟩ 2 := fun _ h => lR h (by kernel_rfl)

theorem r_6_0_1_0_0_8_8_2 : RA ⟨6, 0, 1, 0, 0, 8, 8⟩ 2 := fun _ h => lR h (by kernel_rfl)

theorem r_6_1_1_1_0_8_8_2 : RA ⟨6, 1, 1, 1, 0, 8, 8⟩ 2 := fun _ h => lR h (by kernel_rfl)

theorem r_6_2_1_1_0_8_8_2 : RA ⟨6, 2, 1, 1, 0, 8, 8⟩ 2 := fun _ h => lR h (by kernel_rfl)

theorem r_6_0_1_1_1_8_8_2 : RA ⟨6, 0, 1, 1, 1, 8, 8⟩ 2 := fun _ h => lR h (by kernel_rfl)

theorem r_6_1_1_1_1_5_8_2 : RA ⟨6, 1, 1, 1, 1, 5, 8⟩ 2 := fun _ h => lR h (by kernel_rfl)

theorem r_6_2_1_1_1_5_8_2 : RA ⟨6, 2, 1, 1, 1, 5, 8⟩ 2 := fun _ h => lR h (by kernel_rfl)

theorem r_6_1_1_0_2_8_8_2 : RA ⟨6, 1, 1, 0, 2, 8, 8⟩ 2 := fun _ h => lR h (by kernel_rfl)

theorem r_6_2_1_0_2_8_8_2 : RA ⟨6, 2, 1, 0, 2, 8, 8⟩ 2 := fun _ h => lR h (by kernel_rfl)

theorem r_5_0_1_0_3_0_8_2 : RA ⟨5, 0, 1, 0, 3, 0, 8⟩ 2 := fun _ h => lR h (by kernel_rfl)

theorem r_6_1_1_0_3_5_8_2 : RA ⟨6, 1, 1, 0, 3, 5, 8⟩ 2 := fun _ h => lR h (by kernel_rfl)

theorem r_6_2_1_0_3_5_8_2 : RA ⟨6, 2, 1, 0, 3, 5, 8⟩ 2 := fun _ h => lR h (by kernel_rfl)

theorem r_6_0_1_0_0_8_4_2 : RA ⟨6, 0, 1, 0, 0, 8, 4⟩ 2 := fun _ h => lR h (by kernel_rfl)

theorem r_6_1_1_1_0_8_4_2 : RA ⟨6, 1, 1, 1, 0, 8, 4⟩ 2 := fun _ h => lR h (by kernel_rfl)

theorem r_6_2_1_1_0_8_4_2 : RA ⟨6, 2, 1, 1, 0, 8, 4⟩ 2 := fun _ h => lR h (by kernel_rfl)

theorem r_6_0_1_1_1_8_4_2 : RA ⟨6, 0, 1, 1, 1, 8, 4⟩ 2 := fun _ h => lR h (by kernel_rfl)

theorem r_6_1_1_1_1_5_4_2 : RA ⟨6, 1, 1, 1, 1, 5, 4⟩ 2 := fun _ h => lR h (by kernel_rfl)

theorem r_6_2_1_1_1_5_4_2 : RA ⟨6, 2, 1, 1, 1, 5, 4⟩ 2 := fun _ h => lR h (by kernel_rfl)

theorem r_6_1_1_0_2_8_4_2 : RA ⟨6, 1, 1, 0, 2, 8, 4⟩ 2 := fun _ h => lR h (by kernel_rfl)

theorem r_6_2_1_0_2_8_4_2 : RA ⟨6, 2, 1, 0, 2, 8, 4⟩ 2 := fun _ h => lR h (by kernel_rfl)

theorem r_5_0_1_0_3_0_4_2 : RA ⟨5, 0, 1, 0, 3, 0, 4⟩ 2 := fun _ h => lR h (by kernel_rfl)

theorem r_6_1_1_0_3_5_4_2 : RA ⟨6, 1, 1, 0, 3, 5, 4⟩ 2 := fun _ h => lR h (by kernel_rfl)

theorem r_6_2_1_0_3_5_4_2 : RA ⟨6, 2, 1, 0, 3, 5, 4⟩ 2 := fun _ h => lR h (by kernel_rfl)

theorem r_0_3_0_1_0_8_0_1 : RA ⟨0, 3, 0, 1, 0, 8, 0⟩ 1 := fun _ h => lR h (by kernel_rfl)

theorem r_4_0_0_0_0_8_0_1 : RA ⟨4, 0, 0, 0, 0, 8, 0⟩ 1 := fun _ h => lR h (by kernel_rfl)

theorem r_4_1_0_0_0_8_0_1 : RA ⟨4, 1, 0, 0, 0, 8, 0⟩ 1 := fun _ h => lR h (by kernel_rfl)

theorem r_4_1_0_1_0_5_0_1 : RA ⟨4, 1, 0, 1, 0, 5, 0⟩ 1 := fun _ h => lR h (by kernel_rfl)

theorem r_3_2_0_1_0_8_0_1 : RA ⟨3, 2, 0, 1, 0, 8, 0⟩ 1 := fun _ h => lR h (by kernel_rfl)

theorem r_6_0_0_0_0_8_8_1 : RA ⟨6, 0, 0, 0, 0, 8, 8⟩ 1 := fun _ h => lR h (by kernel_rfl)

theorem r_6_1_0_1_0_8_8_1 : RA ⟨6, 1, 0, 1, 0, 8, 8⟩ 1 := fun _ h => lR h (by kernel_rfl)

theorem r_6_2_0_1_0_8_8_1 : RA ⟨6, 2, 0, 1, 0, 8, 8⟩ 1 := fun _ h => lR h (by kernel_rfl)

theorem r_6_0_0_1_1_8_8_1 : RA ⟨6, 0, 0, 1, 1, 8, 8⟩ 1 := fun _ h => lR h (by kernel_rfl)

theorem r_6_1_0_1_1_5_8_1 : RA ⟨6, 1, 0, 1, 1, 5, 8⟩ 1 := fun _ h => lR h (by kernel_rfl)

theorem r_6_2_0_1_1_5_8_1 : RA ⟨6, 2, 0, 1, 1, 5, 8⟩ 1 := fun _ h => lR h (by kernel_rfl)

theorem r_6_1_0_0_2_8_8_1 : RA ⟨6, 1, 0, 0, 2, 8, 8⟩ 1 := fun _ h => lR h (by kernel_rfl)

theorem r_6_2_0_0_2_8_8_1 : RA ⟨6, 2, 0, 0, 2, 8, 8⟩ 1 := fun _ h => lR h (by kernel_rfl)

theorem r_5_0_0_0_3_0_8_1 : RA ⟨5, 0, 0, 0, 3, 0, 8⟩ 1 := fun _ h => lR h (by kernel_rfl)

theorem r_6_1_0_0_3_5_8_1 : RA ⟨6, 1, 0, 0, 3, 5, 8⟩ 1 := fun _ h => lR h (by kernel_rfl)

theorem r_6_2_0_0_3_5_8_1 : RA ⟨6, 2, 0, 0, 3, 5, 8⟩ 1 := fun _ h => lR h (by kernel_rfl)

theorem r_6_0_1_0_0_8_8_1 : RA ⟨6, 0, 1, 0, 0, 8, 8⟩ 1 := fun _ h => lR h (by kernel_rfl)

theorem r_6_1_1_1_0_8_8_1 : RA ⟨6, 1, 1, 1, 0, 8, 8⟩ 1 := fun _ h => lR h (by kernel_rfl)

theorem r_6_2_1_1_0_8_8_1 : RA ⟨6, 2, 1, 1, 0, 8, 8⟩ 1 := fun _ h => lR h (by kernel_rfl)

theorem r_6_0_1_1_1_8_8_1 : RA ⟨6, 0, 1, 1, 1, 8, 8⟩ 1 := fun _ h => lR h (by kernel_rfl)

theorem r_6_1_1_1_1_5_8_1 : RA ⟨6, 1, 1, 1, 1, 5, 8⟩ 1 := fun _ h => lR h (by kernel_rfl)

theorem r_6_2_1_1_1_5_8_1 : RA ⟨6, 2, 1, 1, 1, 5, 8⟩ 1 := fun _ h => lR h (by kernel_rfl)

theorem r_6_1_1_0_2_8_8_1 : RA ⟨6, 1, 1, 0, 2, 8, 8⟩ 1 := fun _ h => lR h (by kernel_rfl)

theorem r_6_2_1_0_2_8_8_1 : RA ⟨6, 2, 1, 0, 2, 8, 8⟩ 1 := fun _ h => lR h (by kernel_rfl)

theorem r_5_0_1_0_3_0_8_1 : RA ⟨5, 0, 1, 0, 3, 0, 8⟩ 1 := fun _ h => lR h (by kernel_rfl)

theorem r_6_1_1_0_3_5_8_1 : RA ⟨6, 1, 1, 0, 3, 5, 8⟩ 1 := fun _ h => lR h (by kernel_rfl)

theorem r_6_2_1_0_3_5_8_1 : RA ⟨6, 2, 1, 0, 3, 5, 8⟩ 1 := fun _ h => lR h (by kernel_rfl)

theorem r_6_0_1_0_0_8_4_1 : RA ⟨6, 0, 1, 0, 0, 8, 4⟩ 1 := fun _ h => lR h (by kernel_rfl)

theorem r_6_1_1_1_0_8_4_1 : RA ⟨6, 1, 1, 1, 0, 8, 4⟩ 1 := fun _ h => lR h (by kernel_rfl)

theorem r_6_2_1_1_0_8_4_1 : RA ⟨6, 2, 1, 1, 0, 8, 4⟩ 1 := fun _ h => lR h (by kernel_rfl)

theorem r_6_0_1_1_1_8_4_1 : RA ⟨6, 0, 1, 1, 1, 8, 4⟩ 1 := fun _ h => lR h (by kernel_rfl)

theorem r_6_1_1_1_1_5_4_1 : RA ⟨6, 1, 1, 1, 1, 5, 4⟩ 1 := fun _ h => lR h (by kernel_rfl)

theorem r_6_2_1_1_1_5_4_1 : RA ⟨6, 2, 1, 1, 1, 5, 4⟩ 1 := fun _ h => lR h (by kernel_rfl)

theorem r_6_1_1_0_2_8_4_1 : RA ⟨6, 1, 1, 0, 2, 8, 4⟩ 1 := fun _ h => lR h (by kernel_rfl)

theorem r_6_2_1_0_2_8_4_1 : RA ⟨6, 2, 1, 0, 2, 8, 4⟩ 1 := fun _ h => lR h (by kernel_rfl)

theorem r_5_0_1_0_3_0_4_1 : RA ⟨5, 0, 1, 0, 3, 0, 4⟩ 1 := fun _ h => lR h (by kernel_rfl)

theorem r_6_1_1_0_3_5_4_1 : RA ⟨6, 1, 1, 0, 3, 5, 4⟩ 1 := fun _ h => lR h (by kernel_rfl)

theorem r_6_2_1_0_3_5_4_1 : RA ⟨6, 2, 1, 0, 3, 5, 4⟩ 1 := fun _ h => lR h (by kernel_rfl)

end Go.Proofs.Ytbenfglhomiocaa.Br
