/-
  The law 'ModrmBack': ways, part 6.
-/
import Derived.Test.YtbenfglhomiocaaBakH
namespace Go.Proofs.Ytbenfglhomiocaa.Bak
open Go.Sim Go.Proofs.Ytbenfglhomiocaa.Tab
set_option maxRecDepth 100000
set_option linter.unusedSimpArgs false

theorem b_3_0_8_0_0_0_1_0_1 : BA ⟨3, 0, 8, 0, 0, 0, 1, false, true⟩ := fun _ _ h => lB h (wfB _) (by kernel_rfl)

theorem b_3_0_4_0_0_0_0_0_1 : BA ⟨3, 0, 4, 0, 0, 0, 0, false, true⟩ := fun _ _ h => lB h (wfB _) (by kernel_rfl)

theorem b_3_0_4_0_0_0_2_0_1 : BA ⟨3, 0, 4, 0, 0, 0, 2, false, true⟩ := fun _ _ h => lB h (wfB _) (by kernel_rfl)

theorem b_3_0_5_0_0_0_1_0_1 : BA ⟨3, 0, 5, 0, 0, 0, 1, false, true⟩ := fun _ _ h => lB h (wfB _) (by kernel_rfl)

theorem b_3_1_8_0_0_0_0_0_1 : BA ⟨3, 1, 8, 0, 0, 0, 0, false, true⟩ := fun _ _ h => lB h (wfB _) (by kernel_rfl)

theorem b_3_1_8_0_0_0_2_0_1 : BA ⟨3, 1, 8, 0, 0, 0, 2, false, true⟩ := fun _ _ h => lB h (wfB _) (by kernel_rfl)

theorem b_3_1_4_0_0_0_1_0_1 : BA ⟨3, 1, 4, 0, 0, 0, 1, false, true⟩ := fun _ _ h => lB h (wfB _) (by kernel_rfl)

theorem b_3_1_5_0_0_0_0_0_1 : BA ⟨3, 1, 5, 0, 0, 0, 0, false, true⟩ := fun _ _ h => lB h (wfB _) (by kernel_rfl)

theorem b_3_1_5_0_0_0_2_0_1 : BA ⟨3, 1, 5, 0, 0, 0, 2, false, true⟩ := fun _ _ h => lB h (wfB _) (by kernel_rfl)

theorem b_5_0_8_0_8_0_1_0_1 : BA ⟨5, 0, 8, 0, 8, 0, 1, false, true⟩ := fun _ _ h => lB h (wfB _) (by kernel_rfl)

theorem b_5_0_8_0_8_1_0_0_1 : BA ⟨5, 0, 8, 0, 8, 1, 0, false, true⟩ := fun _ _ h => lB h (wfB _) (by kernel_rfl)

theorem b_5_0_8_0_8_1_2_0_1 : BA ⟨5, 0, 8, 0, 8, 1, 2, false, true⟩ := fun _ _ h => lB h (wfB _) (by kernel_rfl)

theorem b_5_0_8_0_8_2_1_0_1 : BA ⟨5, 0, 8, 0, 8, 2, 1, false, true⟩ := fun _ _ h => lB h (wfB _) (by kernel_rfl)

theorem b_5_0_8_0_8_3_0_0_1 : BA ⟨5, 0, 8, 0, 8, 3, 0, false, true⟩ := fun _ _ h => lB h (wfB _) (by kernel_rfl)

theorem b_5_0_8_0_8_3_2_0_1 : BA ⟨5, 0, 8, 0, 8, 3, 2, false, true⟩ := fun _ _ h => lB h (wfB _) (by kernel_rfl)

theorem b_5_0_5_0_8_0_1_0_1 : BA ⟨5, 0, 5, 0, 8, 0, 1, false, true⟩ := fun _ _ h => lB h (wfB _) (by kernel_rfl)

theorem b_5_0_5_0_8_1_0_0_1 : BA ⟨5, 0, 5, 0, 8, 1, 0, false, true⟩ := fun _ _ h => lB h (wfB _) (by kernel_rfl)

theorem b_5_0_5_0_8_1_2_0_1 : BA ⟨5, 0, 5, 0, 8, 1, 2, false, true⟩ := fun _ _ h => lB h (wfB _) (by kernel_rfl)

theorem b_5_0_5_0_8_2_1_0_1 : BA ⟨5, 0, 5, 0, 8, 2, 1, false, true⟩ := fun _ _ h => lB h (wfB _) (by kernel_rfl)

theorem b_5_0_5_0_8_3_0_0_1 : BA ⟨5, 0, 5, 0, 8, 3, 0, false, true⟩ := fun _ _ h => lB h (wfB _) (by kernel_rfl)

theorem b_5_0_5_0_8_3_2_0_1 : BA ⟨5, 0, 5, 0, 8, 3, 2, false, true⟩ := fun _ _ h => lB h (wfB _) (by kernel_rfl)

theorem b_5_1_8_0_8_0_1_0_1 : BA ⟨5, 1, 8, 0, 8, 0, 1, false, true⟩ := fun _ _ h => lB h (wfB _) (by kernel_rfl)

theorem b_5_1_8_0_8_1_0_0_1 : BA ⟨5, 1, 8, 0, 8, 1, 0, false, true⟩ := fun _ _ h => lB h (wfB _) (by kernel_rfl)

theorem b_5_1_8_0_8_1_2_0_1 : BA ⟨5, 1, 8, 0, 8, 1, 2, false, true⟩ := fun _ _ h => lB h (wfB _) (by kernel_rfl)

theorem b_5_1_8_0_8_2_1_0_1 : BA ⟨5, 1, 8, 0, 8, 2, 1, false, true⟩ := fun _ _ h => lB h (wfB _) (by kernel_rfl)

theorem b_5_1_8_0_8_3_0_0_1 : BA ⟨5, 1, 8, 0, 8, 3, 0, false, true⟩ := fun _ _ h => lB h (wfB _) (by kernel_rfl)

theorem b_5_1_8_0_8_3_2_0_1 : BA ⟨5, 1, 8, 0, 8, 3, 2, false, true⟩ := fun _ _ h => lB h (wfB _) (by kernel_rfl)

theorem b_5_1_5_0_8_0_1_0_1 : BA ⟨5, 1, 5, 0, 8, 0, 1, false, true⟩ := fun _ _ h => lB h (wfB _) (by kernel_rfl)

theorem b_5_1_5_0_8_1_0_0_1 : BA ⟨5, 1, 5, 0, 8, 1, 0, false, true⟩ := fun _ _ h => lB h (wfB _) (by kernel_rfl)

theorem b_5_1_5_0_8_1_2_0_1 : BA ⟨5, 1, 5, 0, 8, 1, 2, false, true⟩ := fun _ _ h => lB h (wfB _) (by kernel_rfl)

theorem b_5_1_5_0_8_2_1_0_1 : BA ⟨5, 1, 5, 0, 8, 2, 1, false, true⟩ := fun _ _ h => lB h (wfB _) (by kernel_rfl)

theorem b_5_1_5_0_8_3_0_0_1 : BA ⟨5, 1, 5, 0, 8, 3, 0, false, true⟩ := fun _ _ h => lB h (wfB _) (by kernel_rfl)

theorem b_5_1_5_0_8_3_2_0_1 : BA ⟨5, 1, 5, 0, 8, 3, 2, false, true⟩ := fun _ _ h => lB h (wfB _) (by kernel_rfl)

theorem b_5_0_8_1_8_0_1_0_1 : BA ⟨5, 0, 8, 1, 8, 0, 1, false, true⟩ := fun _ _ h => lB h (wfB _) (by kernel_rfl)

theorem b_5_0_8_1_8_1_0_0_1 : BA ⟨5, 0, 8, 1, 8, 1, 0, false, true⟩ := fun _ _ h => lB h (wfB _) (by kernel_rfl)

theorem b_5_0_8_1_8_1_2_0_1 : BA ⟨5, 0, 8, 1, 8, 1, 2, false, true⟩ := fun _ _ h => lB h (wfB _) (by kernel_rfl)

theorem b_5_0_8_1_8_2_1_0_1 : BA ⟨5, 0, 8, 1, 8, 2, 1, false, true⟩ := fun _ _ h => lB h (wfB _) (by kernel_rfl)

theorem b_5_0_8_1_8_3_0_0_1 : BA ⟨5, 0, 8, 1, 8, 3, 0, false, true⟩ := fun _ _ h => lB h (wfB _) (by kernel_rfl)

theorem b_5_0_8_1_8_3_2_0_1 : BA ⟨5, 0, 8, 1, 8, 3, 2, false, true⟩ := fun _ _ h => lB h (wfB _) (by kernel_rfl)

theorem b_5_0_5_1_8_0_1_0_1 : BA ⟨5, 0, 5, 1, 8, 0, 1, false, true⟩ := fun _ _ h => lB h (wfB _) (by kernel_rfl)

theorem b_5_0_5_1_8_1_0_0_1 : BA ⟨5, 0, 5, 1, 8, 1, 0, false, true⟩ := fun _ _ h => lB h (wfB _) (by kernel_rfl)

theorem b_5_0_5_1_8_1_2_0_1 : BA ⟨5, 0, 5, 1, 8, 1, 2, false, true⟩ := fun _ _ h => lB h (wfB _) (by kernel_rfl)

theorem b_5_0_5_1_8_2_1_0_1 : BA ⟨5, 0, 5, 1, 8, 2, 1, false, true⟩ := fun _ _ h => lB h (wfB _) (by kernel_rfl)

theorem b_5_0_5_1_8_3_0_0_1 : BA ⟨5, 0, 5, 1, 8, 3, 0, false, true⟩ := fun _ _ h => lB h (wfB _) (by kernel_rfl)

theorem b_5_0_5_1_8_3_2_0_1 : BA ⟨5, 0, 5, 1, 8, 3, 2, false, true⟩ := fun _ _ h => lB h (wfB _) (by kernel_rfl)

theorem b_5_1_8_1_8_0_1_0_1 : BA ⟨5, 1, 8, 1, 8, 0, 1, false, true⟩ := fun _ _ h => lB h (wfB _) (by kernel_rfl)

theorem b_5_1_8_1_8_1_0_0_1 : BA ⟨5, 1, 8, 1, 8, 1, 0, false, true⟩ := fun _ _ h => lB h (wfB _) (by kernel_rfl)

theorem b_5_1_8_1_8_1_2_0_1 : BA ⟨5, 1, 8, 1, 8, 1, 2, false, true⟩ := fun _ _ h => lB h (wfB _) (by kernel_rfl)

theorem b_5_1_8_1_8_2_1_0_1 : BA ⟨5, 1, 8, 1, 8, 2, 1, false, true⟩ := fun _ _ h => lB h (wfB _) (by kernel_rfl)

theorem b_5_1_8_1_8_3_0_0_1 : BA ⟨5, 1, 8, 1, 8, 3, 0, false, true⟩ := fun _ _ h => lB h (wfB _) (by kernel_rfl)

theorem b_5_1_8_1_8_3_2_0_1 : BA ⟨5, 1, 8, 1, 8, 3, 2, false, true⟩ := fun _ _ h => lB h (wfB _) (by kernel_rfl)

theorem b_5_1_5_1_8_0_1_0_1 : BA ⟨5, 1, 5, 1, 8, 0, 1, false, true⟩ := fun _ _ h => lB h (wfB _) (by kernel_rfl)

theorem b_5_1_5_1_8_1_0_0_1 : BA ⟨5, 1, 5, 1, 8, 1, 0, false, true⟩ := fun _ _ h => lB h (wfB _) (by kernel_rfl)

theorem b_5_1_5_1_8_1_2_0_1 : BA ⟨5, 1, 5, 1, 8, 1, 2, false, true⟩ := fun _ _ h => lB h (wfB _) (by kernel_rfl)

theorem b_5_1_5_1_8_2_1_0_1 : BA ⟨5, 1, 5, 1, 8, 2, 1, false, true⟩ := fun _ _ h => lB h (wfB _) (by kernel_rfl)

theorem b_5_1_5_1_8_3_0_0_1 : BA ⟨5, 1, 5, 1, 8, 3, 0, false, true⟩ := fun _ _ h => lB h (wfB _) (by kernel_rfl)

theorem b_5_1_5_1_8_3_2_0_1 : BA ⟨5, 1, 5, 1, 8, 3, 2, false, true⟩ := fun _ _ h => lB h (wfB _) (by kernel_rfl)

theorem b_5_0_8_1_4_0_1_0_1 : BA ⟨5, 0, 8, 1, 4, 0, 1, false, true⟩ := fun _ _ h => lB h (wfB _) (by kernel_rfl)

theorem b_5_0_8_1_4_1_0_0_1 : BA ⟨5, 0, 8, 1, 4, 1, 0, false, true⟩ := fun _ _ h => lB h (wfB _) (by kernel_rfl)

theorem b_5_0_8_1_4_1_2_0_1 : BA ⟨5, 0, 8, 1, 4, 1, 2, false, true⟩ := fun _ _ h => lB h (wfB _) (by kernel_rfl)

theorem b_5_0_8_1_4_2_1_0_1 : BA ⟨5, 0, 8, 1, 4, 2, 1, false, true⟩ := fun _ _ h => lB h (wfB _) (by kernel_rfl)

theorem b_5_0_8_1_4_3_0_0_1 : BA ⟨5, 0, 8, 1, 4, 3, 0, false, true⟩ := fun _ _ h => lB h (wfB _) (by kernel_rfl)

theorem b_5_0_8_1_4_3_2_0_1 : BA ⟨5, 0, 8, 1, 4, 3, 2, false, true⟩ := fun _ _ h => lB h (wfB _) (by kernel_rfl)

theorem b_5_0_5_1_4_0_1_0_1 : BA ⟨5, 0, 5, 1, 4, 0, 1, false, true⟩ := fun _ _ h => lB h (wfB _) (by kernel_rfl)

theorem b_5_0_5_1_4_1_0_0_1 : BA ⟨5, 0, 5, 1, 4, 1, 0, false, true⟩ := fun _ _ h => lB h (wfB _) (by kernel_rfl)

theorem b_5_0_5_1_4_1_2_0_1 : BA ⟨5, 0, 5, 1, 4, 1, 2, false, true⟩ := fun _ _ h => lB h (wfB _) (by kernel_rfl)

theorem b_5_0_5_1_4_2_1_0_1 : BA ⟨5, 0, 5, 1, 4, 2, 1, false, true⟩ := fun _ _ h => lB h (wfB _) (by kernel_rfl)

theorem b_5_0_5_1_4_3_0_0_1 : BA ⟨5, 0, 5, 1, 4, 3, 0, false, true⟩ := fun _ _ h => lB h (wfB _) (by kernel_rfl)

theorem b_5_0_5_1_4_3_2_0_1 : BA ⟨5, 0, 5, 1, 4, 3, 2, false, true⟩ := fun _ _ h => lB h (wfB _) (by kernel_rfl)

theorem b_5_1_8_1_4_0_1_0_1 : BA ⟨5, 1, 8, 1, 4, 0, 1, false, true⟩ := fun _ _ h => lB h (wfB _) (by kernel_rfl)

theorem b_5_1_8_1_4_1_0_0_1 : BA ⟨5, 1, 8, 1, 4, 1, 0, false, true⟩ := fun _ _ h => lB h (wfB _) (by kernel_rfl)

theorem b_5_1_8_1_4_1_2_0_1 : BA ⟨5, 1, 8, 1, 4, 1, 2, false, true⟩ := fun _ _ h => lB h (wfB _) (by kernel_rfl)

theorem b_5_1_8_1_4_2_1_0_1 : BA ⟨5, 1, 8, 1, 4, 2, 1, false, true⟩ := fun _ _ h => lB h (wfB _) (by kernel_rfl)

theorem b_5_1_8_1_4_3_0_0_1 : BA ⟨5, 1, 8, 1, 4, 3, 0, false, true⟩ := fun _ _ h => lB h (wfB _) (by kernel_rfl)

theorem b_5_1_8_1_4_3_2_0_1 : BA ⟨5, 1, 8, 1, 4, 3, 2, false, true⟩ := fun _ _ h => lB h (wfB _) (by kernel_rfl)

theorem b_5_1_5_1_4_0_1_0_1 : BA ⟨5, 1, 5, 1, 4, 0, 1, false, true⟩ := fun _ _ h => lB h (wfB _) (by kernel_rfl)

theorem b_5_1_5_1_4_1_0_0_1 : BA ⟨5, 1, 5, 1, 4, 1, 0, false, true⟩ := fun _ _ h => lB h (wfB _) (by kernel_rfl)

theorem b_5_1_5_1_4_1_2_0_1 : BA ⟨5, 1, 5, 1, 4, 1, 2, false, true⟩ := fun _ _ h => lB h (wfB _) (by kernel_rfl)

theorem b_5_1_5_1_4_2_1_0_1 : BA ⟨5, 1, 5, 1, 4, 2, 1, false, true⟩ := fun _ _ h => lB h (wfB _) (by kernel_rfl)

theorem b_5_1_5_1_4_3_0_0_1 : BA ⟨5, 1, 5, 1, 4, 3, 0, false, true⟩ := fun _ _ h => lB h (wfB _) (by kernel_rfl)

theorem b_5_1_5_1_4_3_2_0_1 : BA ⟨5, 1, 5, 1, 4, 3, 2, false, true⟩ := fun _ _ h => lB h (wfB _) (by kernel_rfl)

theorem b_0_1_8_0_0_0_2_0_1 : BA ⟨0, 1, 8, 0, 0, 0, 2, false, true⟩ := fun _ _ h => lB h (wfB _) (by kernel_rfl)

theorem b_2_0_0_0_0_0_0_0_1 : BA ⟨2, 0, 0, 0, 0, 0, 0, false, true⟩ := fun _ _ h => lB h (wfB _) (by kernel_rfl)

theorem b_2_0_0_0_0_0_2_0_1 : BA ⟨2, 0, 0, 0, 0, 0, 2, false, true⟩ := fun _ _ h => lB h (wfB _) (by kernel_rfl)

theorem b_4_0_0_0_8_1_2_0_1 : BA ⟨4, 0, 0, 0, 8, 1, 2, false, true⟩ := fun _ _ h => lB h (wfB _) (by kernel_rfl)

theorem b_4_0_0_0_8_2_2_0_1 : BA ⟨4, 0, 0, 0, 8, 2, 2, false, true⟩ := fun _ _ h => lB h (wfB _) (by kernel_rfl)

theorem b_4_0_0_0_8_3_2_0_1 : BA ⟨4, 0, 0, 0, 8, 3, 2, false, true⟩ := fun _ _ h => lB h (wfB _) (by kernel_rfl)

theorem b_4_0_0_1_8_1_2_0_1 : BA ⟨4, 0, 0, 1, 8, 1, 2, false, true⟩ := fun _ _ h => lB h (wfB _) (by kernel_rfl)

theorem b_4_0_0_1_8_2_2_0_1 : BA ⟨4, 0, 0, 1, 8, 2, 2, false, true⟩ := fun _ _ h => lB h (wfB _) (by kernel_rfl)

theorem b_4_0_0_1_8_3_2_0_1 : BA ⟨4, 0, 0, 1, 8, 3, 2, false, true⟩ := fun _ _ h => lB h (wfB _) (by kernel_rfl)

theorem b_4_0_0_1_4_1_2_0_1 : BA ⟨4, 0, 0, 1, 4, 1, 2, false, true⟩ := fun _ _ h => lB h (wfB _) (by kernel_rfl)

theorem b_4_0_0_1_4_2_2_0_1 : BA ⟨4, 0, 0, 1, 4, 2, 2, false, true⟩ := fun _ _ h => lB h (wfB _) (by kernel_rfl)

theorem b_4_0_0_1_4_3_2_0_1 : BA ⟨4, 0, 0, 1, 4, 3, 2, false, true⟩ := fun _ _ h => lB h (wfB _) (by kernel_rfl)

end Go.Proofs.Ytbenfglhomiocaa.Bak
