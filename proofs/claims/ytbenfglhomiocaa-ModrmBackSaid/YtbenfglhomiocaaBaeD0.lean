/-
  The law 'ModrmBack', a slice too long: ways, part 0.
-/
import Derived.Test.YtbenfglhomiocaaBaeH
namespace Go.Proofs.Ytbenfglhomiocaa.Bak
open Go.Sim Go.Proofs.Ytbenfglhomiocaa.Tab
set_option maxRecDepth 100000
set_option linter.unusedVariables false

theorem x_0_0_8_0_0_0_2_1 : LA ⟨0, 0, 8, 0, 0, 0, 2, false, false⟩ true := lL fun _ _ _ => by kernel_rfl

theorem x_1_0_0_0_0_0_0_1 : LA ⟨1, 0, 0, 0, 0, 0, 0, false, false⟩ true := lL fun _ _ _ => by kernel_rfl

theorem x_1_0_0_0_0_0_2_1 : LA ⟨1, 0, 0, 0, 0, 0, 2, false, false⟩ true := lL fun _ _ _ => by kernel_rfl

theorem x_3_0_8_0_0_0_0_1 : LA ⟨3, 0, 8, 0, 0, 0, 0, false, false⟩ true := lL fun _ _ _ => by kernel_rfl

theorem x_3_0_8_0_0_0_2_1 : LA ⟨3, 0, 8, 0, 0, 0, 2, false, false⟩ true := lL fun _ _ _ => by kernel_rfl

theorem x_3_0_4_0_0_0_1_1 : LA ⟨3, 0, 4, 0, 0, 0, 1, false, false⟩ true := lL fun _ _ _ => by kernel_rfl

theorem x_3_0_5_0_0_0_0_1 : LA ⟨3, 0, 5, 0, 0, 0, 0, false, false⟩ true := lL fun _ _ _ => by kernel_rfl

theorem x_3_0_5_0_0_0_2_1 : LA ⟨3, 0, 5, 0, 0, 0, 2, false, false⟩ true := lL fun _ _ _ => by kernel_rfl

theorem x_3_1_8_0_0_0_1_1 : LA ⟨3, 1, 8, 0, 0, 0, 1, false, false⟩ true := lL fun _ _ _ => by kernel_rfl

theorem x_3_1_4_0_0_0_0_1 : LA ⟨3, 1, 4, 0, 0, 0, 0, false, false⟩ true := lL fun _ _ _ => by kernel_rfl

theorem x_3_1_4_0_0_0_2_1 : LA ⟨3, 1, 4, 0, 0, 0, 2, false, false⟩ true := lL fun _ _ _ => by kernel_rfl

theorem x_3_1_5_0_0_0_1_1 : LA ⟨3, 1, 5, 0, 0, 0, 1, false, false⟩ true := lL fun _ _ _ => by kernel_rfl

theorem x_4_0_0_0_8_1_0_1 : LA ⟨4, 0, 0, 0, 8, 1, 0, false, false⟩ true := lL fun _ _ _ => by kernel_rfl

theorem x_4_0_0_0_8_2_0_1 : LA ⟨4, 0, 0, 0, 8, 2, 0, false, false⟩ true := lL fun _ _ _ => by kernel_rfl

theorem x_4_0_0_0_8_3_0_1 : LA ⟨4, 0, 0, 0, 8, 3, 0, false, false⟩ true := lL fun _ _ _ => by kernel_rfl

theorem x_5_0_8_0_8_0_0_1 : LA ⟨5, 0, 8, 0, 8, 0, 0, false, false⟩ true := lL fun _ _ _ => by kernel_rfl

theorem x_5_0_8_0_8_0_2_1 : LA ⟨5, 0, 8, 0, 8, 0, 2, false, false⟩ true := lL fun _ _ _ => by kernel_rfl

theorem x_5_0_8_0_8_1_1_1 : LA ⟨5, 0, 8, 0, 8, 1, 1, false, false⟩ true := lL fun _ _ _ => by kernel_rfl

theorem x_5_0_8_0_8_2_0_1 : LA ⟨5, 0, 8, 0, 8, 2, 0, false, false⟩ true := lL fun _ _ _ => by kernel_rfl

theorem x_5_0_8_0_8_2_2_1 : LA ⟨5, 0, 8, 0, 8, 2, 2, false, false⟩ true := lL fun _ _ _ => by kernel_rfl

theorem x_5_0_8_0_8_3_1_1 : LA ⟨5, 0, 8, 0, 8, 3, 1, false, false⟩ true := lL fun _ _ _ => by kernel_rfl

theorem x_5_0_5_0_8_0_0_1 : LA ⟨5, 0, 5, 0, 8, 0, 0, false, false⟩ true := lL fun _ _ _ => by kernel_rfl

theorem x_5_0_5_0_8_0_2_1 : LA ⟨5, 0, 5, 0, 8, 0, 2, false, false⟩ true := lL fun _ _ _ => by kernel_rfl

theorem x_5_0_5_0_8_1_1_1 : LA ⟨5, 0, 5, 0, 8, 1, 1, false, false⟩ true := lL fun _ _ _ => by kernel_rfl

theorem x_5_0_5_0_8_2_0_1 : LA ⟨5, 0, 5, 0, 8, 2, 0, false, false⟩ true := lL fun _ _ _ => by kernel_rfl

theorem x_5_0_5_0_8_2_2_1 : LA ⟨5, 0, 5, 0, 8, 2, 2, false, false⟩ true := lL fun _ _ _ => by kernel_rfl

theorem x_5_0_5_0_8_3_1_1 : LA ⟨5, 0, 5, 0, 8, 3, 1, false, false⟩ true := lL fun _ _ _ => by kernel_rfl

theorem x_5_1_8_0_8_0_0_1 : LA ⟨5, 1, 8, 0, 8, 0, 0, false, false⟩ true := lL fun _ _ _ => by kernel_rfl

theorem x_5_1_8_0_8_0_2_1 : LA ⟨5, 1, 8, 0, 8, 0, 2, false, false⟩ true := lL fun _ _ _ => by kernel_rfl

theorem x_5_1_8_0_8_1_1_1 : LA ⟨5, 1, 8, 0, 8, 1, 1, false, false⟩ true := lL fun _ _ _ => by kernel_rfl

theorem x_5_1_8_0_8_2_0_1 : LA ⟨5, 1, 8, 0, 8, 2, 0, false, false⟩ true := lL fun _ _ _ => by kernel_rfl

theorem x_5_1_8_0_8_2_2_1 : LA ⟨5, 1, 8, 0, 8, 2, 2, false, false⟩ true := lL fun _ _ _ => by kernel_rfl

theorem x_5_1_8_0_8_3_1_1 : LA ⟨5, 1, 8, 0, 8, 3, 1, false, false⟩ true := lL fun _ _ _ => by kernel_rfl

theorem x_5_1_5_0_8_0_0_1 : LA ⟨5, 1, 5, 0, 8, 0, 0, false, false⟩ true := lL fun _ _ _ => by kernel_rfl

theorem x_5_1_5_0_8_0_2_1 : LA ⟨5, 1, 5, 0, 8, 0, 2, false, false⟩ true := lL fun _ _ _ => by kernel_rfl

theorem x_5_1_5_0_8_1_1_1 : LA ⟨5, 1, 5, 0, 8, 1, 1, false, false⟩ true := lL fun _ _ _ => by kernel_rfl

theorem x_5_1_5_0_8_2_0_1 : LA ⟨5, 1, 5, 0, 8, 2, 0, false, false⟩ true := lL fun _ _ _ => by kernel_rfl

theorem x_5_1_5_0_8_2_2_1 : LA ⟨5, 1, 5, 0, 8, 2, 2, false, false⟩ true := lL fun _ _ _ => by kernel_rfl

theorem x_5_1_5_0_8_3_1_1 : LA ⟨5, 1, 5, 0, 8, 3, 1, false, false⟩ true := lL fun _ _ _ => by kernel_rfl

theorem x_4_0_0_1_8_1_0_1 : LA ⟨4, 0, 0, 1, 8, 1, 0, false, false⟩ true := lL fun _ _ _ => by kernel_rfl

theorem x_4_0_0_1_8_2_0_1 : LA ⟨4, 0, 0, 1, 8, 2, 0, false, false⟩ true := lL fun _ _ _ => by kernel_rfl

theorem x_4_0_0_1_8_3_0_1 : LA ⟨4, 0, 0, 1, 8, 3, 0, false, false⟩ true := lL fun _ _ _ => by kernel_rfl

theorem x_5_0_8_1_8_0_0_1 : LA ⟨5, 0, 8, 1, 8, 0, 0, false, false⟩ true := lL fun _ _ _ => by kernel_rfl

theorem x_5_0_8_1_8_0_2_1 : LA ⟨5, 0, 8, 1, 8, 0, 2, false, false⟩ true := lL fun _ _ _ => by kernel_rfl

theorem x_5_0_8_1_8_1_1_1 : LA ⟨5, 0, 8, 1, 8, 1, 1, false, false⟩ true := lL fun _ _ _ => by kernel_rfl

theorem x_5_0_8_1_8_2_0_1 : LA ⟨5, 0, 8, 1, 8, 2, 0, false, false⟩ true := lL fun _ _ _ => by kernel_rfl

theorem x_5_0_8_1_8_2_2_1 : LA ⟨5, 0, 8, 1, 8, 2, 2, false, false⟩ true := lL fun _ _ _ => by kernel_rfl

theorem x_5_0_8_1_8_3_1_1 : LA ⟨5, 0, 8, 1, 8, 3, 1, false, false⟩ true := lL fun _ _ _ => by kernel_rfl

theorem x_5_0_5_1_8_0_0_1 : LA ⟨5, 0, 5, 1, 8, 0, 0, false, false⟩ true := lL fun _ _ _ => by kernel_rfl

theorem x_5_0_5_1_8_0_2_1 : LA ⟨5, 0, 5, 1, 8, 0, 2, false, false⟩ true := lL fun _ _ _ => by kernel_rfl

theorem x_5_0_5_1_8_1_1_1 : LA ⟨5, 0, 5, 1, 8, 1, 1, false, false⟩ true := lL fun _ _ _ => by kernel_rfl

theorem x_5_0_5_1_8_2_0_1 : LA ⟨5, 0, 5, 1, 8, 2, 0, false, false⟩ true := lL fun _ _ _ => by kernel_rfl

theorem x_5_0_5_1_8_2_2_1 : LA ⟨5, 0, 5, 1, 8, 2, 2, false, false⟩ true := lL fun _ _ _ => by kernel_rfl

theorem x_5_0_5_1_8_3_1_1 : LA ⟨5, 0, 5, 1, 8, 3, 1, false, false⟩ true := lL fun _ _ _ => by kernel_rfl

theorem x_5_1_8_1_8_0_0_1 : LA ⟨5, 1, 8, 1, 8, 0, 0, false, false⟩ true := lL fun _ _ _ => by kernel_rfl

theorem x_5_1_8_1_8_0_2_1 : LA ⟨5, 1, 8, 1, 8, 0, 2, false, false⟩ true := lL fun _ _ _ => by kernel_rfl

theorem x_5_1_8_1_8_1_1_1 : LA ⟨5, 1, 8, 1, 8, 1, 1, false, false⟩ true := lL fun _ _ _ => by kernel_rfl

theorem x_5_1_8_1_8_2_0_1 : LA ⟨5, 1, 8, 1, 8, 2, 0, false, false⟩ true := lL fun _ _ _ => by kernel_rfl

theorem x_5_1_8_1_8_2_2_1 : LA ⟨5, 1, 8, 1, 8, 2, 2, false, false⟩ true := lL fun _ _ _ => by kernel_rfl

theorem x_5_1_8_1_8_3_1_1 : LA ⟨5, 1, 8, 1, 8, 3, 1, false, false⟩ true := lL fun _ _ _ => by kernel_rfl

theorem x_5_1_5_1_8_0_0_1 : LA ⟨5, 1, 5, 1, 8, 0, 0, false, false⟩ true := lL fun _ _ _ => by kernel_rfl

theorem x_5_1_5_1_8_0_2_1 : LA ⟨5, 1, 5, 1, 8, 0, 2, false, false⟩ true := lL fun _ _ _ => by kernel_rfl

theorem x_5_1_5_1_8_1_1_1 : LA ⟨5, 1, 5, 1, 8, 1, 1, false, false⟩ true := lL fun _ _ _ => by kernel_rfl

theorem x_5_1_5_1_8_2_0_1 : LA ⟨5, 1, 5, 1, 8, 2, 0, false, false⟩ true := lL fun _ _ _ => by kernel_rfl

theorem x_5_1_5_1_8_2_2_1 : LA ⟨5, 1, 5, 1, 8, 2, 2, false, false⟩ true := lL fun _ _ _ => by kernel_rfl

theorem x_5_1_5_1_8_3_1_1 : LA ⟨5, 1, 5, 1, 8, 3, 1, false, false⟩ true := lL fun _ _ _ => by kernel_rfl

theorem x_4_0_0_1_4_1_0_1 : LA ⟨4, 0, 0, 1, 4, 1, 0, false, false⟩ true := lL fun _ _ _ => by kernel_rfl

theorem x_4_0_0_1_4_2_0_1 : LA ⟨4, 0, 0, 1, 4, 2, 0, false, false⟩ true := lL fun _ _ _ => by kernel_rfl

theorem x_4_0_0_1_4_3_0_1 : LA ⟨4, 0, 0, 1, 4, 3, 0, false, false⟩ true := lL fun _ _ _ => by kernel_rfl

theorem x_5_0_8_1_4_0_0_1 : LA ⟨5, 0, 8, 1, 4, 0, 0, false, false⟩ true := lL fun _ _ _ => by kernel_rfl

theorem x_5_0_8_1_4_0_2_1 : LA ⟨5, 0, 8, 1, 4, 0, 2, false, false⟩ true := lL fun _ _ _ => by kernel_rfl

theorem x_5_0_8_1_4_1_1_1 : LA ⟨5, 0, 8, 1, 4, 1, 1, false, false⟩ true := lL fun _ _ _ => by kernel_rfl

theorem x_5_0_8_1_4_2_0_1 : LA ⟨5, 0, 8, 1, 4, 2, 0, false, false⟩ true := lL fun _ _ _ => by kernel_rfl

theorem x_5_0_8_1_4_2_2_1 : LA ⟨5, 0, 8, 1, 4, 2, 2, false, false⟩ true := lL fun _ _ _ => by kernel_rfl

theorem x_5_0_8_1_4_3_1_1 : LA ⟨5, 0, 8, 1, 4, 3, 1, false, false⟩ true := lL fun _ _ _ => by kernel_rfl

theorem x_5_0_5_1_4_0_0_1 : LA ⟨5, 0, 5, 1, 4, 0, 0, false, false⟩ true := lL fun _ _ _ => by kernel_rfl

theorem x_5_0_5_1_4_0_2_1 : LA ⟨5, 0, 5, 1, 4, 0, 2, false, false⟩ true := lL fun _ _ _ => by kernel_rfl

theorem x_5_0_5_1_4_1_1_1 : LA ⟨5, 0, 5, 1, 4, 1, 1, false, false⟩ true := lL fun _ _ _ => by kernel_rfl

theorem x_5_0_5_1_4_2_0_1 : LA ⟨5, 0, 5, 1, 4, 2, 0, false, false⟩ true := lL fun _ _ _ => by kernel_rfl

theorem x_5_0_5_1_4_2_2_1 : LA ⟨5, 0, 5, 1, 4, 2, 2, false, false⟩ true := lL fun _ _ _ => by kernel_rfl

theorem x_5_0_5_1_4_3_1_1 : LA ⟨5, 0, 5, 1, 4, 3, 1, false, false⟩ true := lL fun _ _ _ => by kernel_rfl

theorem x_5_1_8_1_4_0_0_1 : LA ⟨5, 1, 8, 1, 4, 0, 0, false, false⟩ true := lL fun _ _ _ => by kernel_rfl

theorem x_5_1_8_1_4_0_2_1 : LA ⟨5, 1, 8, 1, 4, 0, 2, false, false⟩ true := lL fun _ _ _ => by kernel_rfl

theorem x_5_1_8_1_4_1_1_1 : LA ⟨5, 1, 8, 1, 4, 1, 1, false, false⟩ true := lL fun _ _ _ => by kernel_rfl

theorem x_5_1_8_1_4_2_0_1 : LA ⟨5, 1, 8, 1, 4, 2, 0, false, false⟩ true := lL fun _ _ _ => by kernel_rfl

theorem x_5_1_8_1_4_2_2_1 : LA ⟨5, 1, 8, 1, 4, 2, 2, false, false⟩ true := lL fun _ _ _ => by kernel_rfl

theorem x_5_1_8_1_4_3_1_1 : LA ⟨5, 1, 8, 1, 4, 3, 1, false, false⟩ true := lL fun _ _ _ => by kernel_rfl

theorem x_5_1_5_1_4_0_0_1 : LA ⟨5, 1, 5, 1, 4, 0, 0, false, false⟩ true := lL fun _ _ _ => by kernel_rfl

theorem x_5_1_5_1_4_0_2_1 : LA ⟨5, 1, 5, 1, 4, 0, 2, false, false⟩ true := lL fun _ _ _ => by kernel_rfl

theorem x_5_1_5_1_4_1_1_1 : LA ⟨5, 1, 5, 1, 4, 1, 1, false, false⟩ true := lL fun _ _ _ => by kernel_rfl

theorem x_5_1_5_1_4_2_0_1 : LA ⟨5, 1, 5, 1, 4, 2, 0, false, false⟩ true := lL fun _ _ _ => by kernel_rfl

theorem x_5_1_5_1_4_2_2_1 : LA ⟨5, 1, 5, 1, 4, 2, 2, false, false⟩ true := lL fun _ _ _ => by kernel_rfl

theorem x_5_1_5_1_4_3_1_1 : LA ⟨5, 1, 5, 1, 4, 3, 1, false, false⟩ true := lL fun _ _ _ => by kernel_rfl

end Go.Proofs.Ytbenfglhomiocaa.Bak
