/-
  'FlowConds', run for each number that can be picked.
-/
import Derived.Test.YtgaecdjfgffonaaTab
import Derived.Test.YtgaecdjfgffonaaPick
namespace Go.Proofs.Ytgaecdjfgffonaa.Tab
open Go.Sim
set_option maxRecDepth 100000

noncomputable def flowCondsAt [Syms] (j : Nat) : Bool := saysTrue (run Try.prog (orElse orc (pickO 15 [(0, 16, j)])) 1000 7 [.sym 0])

theorem flowConds0 [Syms] : (List.range' 0 2).all flowCondsAt = true := by kernel_rfl

theorem flowConds1 [Syms] : (List.range' 2 2).all flowCondsAt = true := by kernel_rfl

theorem flowConds2 [Syms] : (List.range' 4 2).all flowCondsAt = true := by kernel_rfl

theorem flowConds3 [Syms] : (List.range' 6 2).all flowCondsAt = true := by kernel_rfl

theorem flowConds4 [Syms] : (List.range' 8 2).all flowCondsAt = true := by kernel_rfl

theorem flowConds5 [Syms] : (List.range' 10 2).all flowCondsAt = true := by kernel_rfl

theorem flowConds6 [Syms] : (List.range' 12 2).all flowCondsAt = true := by kernel_rfl

theorem flowConds7 [Syms] : (List.range' 14 2).all flowCondsAt = true := by kernel_rfl

theorem flowCondsEach [Syms] : ∀ j, 0 ≤ j → j < 16 → flowCondsAt j = true := (all_part flowConds0 (all_part flowConds1 (all_part flowConds2 (all_part flowConds3 (all_part flowConds4 (all_part flowConds5 (all_part flowConds6 (all_part flowConds7 all_done))))))))

theorem flowCondsAll (_ : Syms) (j : Nat) (hj : j < 16) : saysTrue (run Try.prog (orElse orc (pickO 15 [(0, 16, j)])) 1000 7 [.sym 0]) = true := flowCondsEach j (Nat.zero_le j) hj

end Go.Proofs.Ytgaecdjfgffonaa.Tab
