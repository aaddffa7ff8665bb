/-
  'FlowMay', run for each number that can be picked.
-/
import Derived.Test.YtgaecdjfgffonaaTab
import Derived.Test.YtgaecdjfgffonaaPick
namespace Go.Proofs.Ytgaecdjfgffonaa.Tab
open Go.Sim
set_option maxRecDepth 100000

noncomputable def flowMayAt [Syms] (j : Nat) : Bool := saysTrue (run Try.prog (orElse orc (pickO 15 [(0, 130, j)])) 1000 8 [.sym 0])

theorem flowMay0 [Syms] : (List.range' 0 20).all flowMayAt = true := by kernel_rfl

theorem flowMay1 [Syms] : (List.range' 20 20).all flowMayAt = true := by kernel_rfl

theorem flowMay2 [Syms] : (List.range' 40 20).all flowMayAt = true := by kernel_rfl

theorem flowMay3 [Syms] : (List.range' 60 20).all flowMayAt = true := by kernel_rfl

theorem flowMay4 [Syms] : (List.range' 80 20).all flowMayAt = true := by kernel_rfl

theorem flowMay5 [Syms] : (List.range' 100 20).all flowMayAt = true := by kernel_rfl

theorem flowMay6 [Syms] : (List.range' 120 10).all flowMayAt = true := by kernel_rfl

theorem flowMayEach [Syms] : ∀ j, 0 ≤ j → j < 130 → flowMayAt j = true := (all_part flowMay0 (all_part flowMay1 (all_part flowMay2 (all_part flowMay3 (all_part flowMay4 (all_part flowMay5 (all_part flowMay6 all_done)))))))

theorem flowMayAll (_ : Syms) (j : Nat) (hj : j < 130) : saysTrue (run Try.prog (orElse orc (pickO 15 [(0, 130, j)])) 1000 8 [.sym 0]) = true := flowMayEach j (Nat.zero_le j) hj

end Go.Proofs.Ytgaecdjfgffonaa.Tab
