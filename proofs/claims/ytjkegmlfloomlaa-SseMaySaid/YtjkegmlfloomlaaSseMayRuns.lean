/-
  'SseMay', run for each number that can be picked.
-/
import Derived.Test.YtjkegmlfloomlaaTab
import Derived.Test.YtjkegmlfloomlaaPick
namespace Go.Proofs.Ytjkegmlfloomlaa.Tab
open Go.Sim
set_option maxRecDepth 100000

noncomputable def sseMayAt [Syms] (j : Nat) : Bool := saysTrue (run Try.prog (orElse orc (pickO 15 [(0, 151, j)])) 1000 8 [.sym 0])

theorem sseMay0 [Syms] : (List.range' 0 16).all sseMayAt = true := by kernel_rfl

theorem sseMay1 [Syms] : (List.range' 16 16).all sseMayAt = true := by kernel_rfl

theorem sseMay2 [Syms] : (List.range' 32 16).all sseMayAt = true := by kernel_rfl

theorem sseMay3 [Syms] : (List.range' 48 16).all sseMayAt = true := by kernel_rfl

theorem sseMay4 [Syms] : (List.range' 64 16).all sseMayAt = true := by kernel_rfl

theorem sseMay5 [Syms] : (List.range' 80 16).all sseMayAt = true := by kernel_rfl

theorem sseMay6 [Syms] : (List.range' 96 16).all sseMayAt = true := by kernel_rfl

theorem sseMay7 [Syms] : (List.range' 112 16).all sseMayAt = true := by kernel_rfl

theorem sseMay8 [Syms] : (List.range' 128 16).all sseMayAt = true := by kernel_rfl

theorem sseMay9 [Syms] : (List.range' 144 7).all sseMayAt = true := by kernel_rfl

theorem sseMayEach [Syms] : ∀ j, 0 ≤ j → j < 151 → sseMayAt j = true := (all_part sseMay0 (all_part sseMay1 (all_part sseMay2 (all_part sseMay3 (all_part sseMay4 (all_part sseMay5 (all_part sseMay6 (all_part sseMay7 (all_part sseMay8 (all_part sseMay9 all_done))))))))))

theorem sseMayAll (_ : Syms) (j : Nat) (hj : j < 151) : saysTrue (run Try.prog (orElse orc (pickO 15 [(0, 151, j)])) 1000 8 [.sym 0]) = true := sseMayEach j (Nat.zero_le j) hj

end Go.Proofs.Ytjkegmlfloomlaa.Tab
