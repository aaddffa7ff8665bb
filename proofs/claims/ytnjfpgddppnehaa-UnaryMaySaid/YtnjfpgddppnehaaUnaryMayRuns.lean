/-
  'UnaryMay', run for each number that can be picked.
-/
import Derived.Test.YtnjfpgddppnehaaTab
import Derived.Test.YtnjfpgddppnehaaPick
namespace Go.Proofs.Ytnjfpgddppnehaa.Tab
open Go.Sim
set_option maxRecDepth 100000

noncomputable def unaryMayAt [Syms] (j : Nat) : Bool := saysTrue (run Try.prog (orElse orc (pickO 13 [(0, 174, j)])) 1000 7 [.sym 0])

theorem unaryMay0 [Syms] : (List.range' 0 16).all unaryMayAt = true := by kernel_rfl

theorem unaryMay1 [Syms] : (List.range' 16 16).all unaryMayAt = true := by kernel_rfl

theorem unaryMay2 [Syms] : (List.range' 32 16).all unaryMayAt = true := by kernel_rfl

theorem unaryMay3 [Syms] : (List.range' 48 16).all unaryMayAt = true := by kernel_rfl

theorem unaryMay4 [Syms] : (List.range' 64 16).all unaryMayAt = true := by kernel_rfl

theorem unaryMay5 [Syms] : (List.range' 80 16).all unaryMayAt = true := by kernel_rfl

theorem unaryMay6 [Syms] : (List.range' 96 16).all unaryMayAt = true := by kernel_rfl

theorem unaryMay7 [Syms] : (List.range' 112 16).all unaryMayAt = true := by kernel_rfl

theorem unaryMay8 [Syms] : (List.range' 128 16).all unaryMayAt = true := by kernel_rfl

theorem unaryMay9 [Syms] : (List.range' 144 16).all unaryMayAt = true := by kernel_rfl

theorem unaryMay10 [Syms] : (List.range' 160 14).all unaryMayAt = true := by kernel_rfl

theorem unaryMayEach [Syms] : ∀ j, 0 ≤ j → j < 174 → unaryMayAt j = true := (all_part unaryMay0 (all_part unaryMay1 (all_part unaryMay2 (all_part unaryMay3 (all_part unaryMay4 (all_part unaryMay5 (all_part unaryMay6 (all_part unaryMay7 (all_part unaryMay8 (all_part unaryMay9 (all_part unaryMay10 all_done)))))))))))

theorem unaryMayAll (_ : Syms) (j : Nat) (hj : j < 174) : saysTrue (run Try.prog (orElse orc (pickO 13 [(0, 174, j)])) 1000 7 [.sym 0]) = true := unaryMayEach j (Nat.zero_le j) hj

end Go.Proofs.Ytnjfpgddppnehaa.Tab
