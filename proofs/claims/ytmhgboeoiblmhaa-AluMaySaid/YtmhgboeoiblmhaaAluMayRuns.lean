/-
  'AluMay', run for each number that can be picked.
-/
import Derived.Test.YtmhgboeoiblmhaaTab
import Derived.Test.YtmhgboeoiblmhaaPick
namespace Go.Proofs.Ytmhgboeoiblmhaa.Tab
open Go.Sim
set_option maxRecDepth 100000

noncomputable def aluMayAt [Syms] (j : Nat) : Bool := saysTrue (run Try.prog (orElse orc (pickO 15 [(0, 207, j)])) 1000 8 [.sym 0])

theorem aluMay0 [Syms] : (List.range' 0 16).all aluMayAt = true := by kernel_rfl

theorem aluMay1 [Syms] : (List.range' 16 16).all aluMayAt = true := by kernel_rfl

theorem aluMay2 [Syms] : (List.range' 32 16).all aluMayAt = true := by kernel_rfl

theorem aluMay3 [Syms] : (List.range' 48 16).all aluMayAt = true := by kernel_rfl

theorem aluMay4 [Syms] : (List.range' 64 16).all aluMayAt = true := by kernel_rfl

theorem aluMay5 [Syms] : (List.range' 80 16).all aluMayAt = true := by kernel_rfl

theorem aluMay6 [Syms] : (List.range' 96 16).all aluMayAt = true := by kernel_rfl

theorem aluMay7 [Syms] : (List.range' 112 16).all aluMayAt = true := by kernel_rfl

theorem aluMay8 [Syms] : (List.range' 128 16).all aluMayAt = true := by kernel_rfl

theorem aluMay9 [Syms] : (List.range' 144 16).all aluMayAt = true := by kernel_rfl

theorem aluMay10 [Syms] : (List.range' 160 16).all aluMayAt = true := by kernel_rfl

theorem aluMay11 [Syms] : (List.range' 176 16).all aluMayAt = true := by kernel_rfl

theorem aluMay12 [Syms] : (List.range' 192 15).all aluMayAt = true := by kernel_rfl

theorem aluMayEach [Syms] : ∀ j, 0 ≤ j → j < 207 → aluMayAt j = true := (all_part aluMay0 (all_part aluMay1 (all_part aluMay2 (all_part aluMay3 (all_part aluMay4 (all_part aluMay5 (all_part aluMay6 (all_part aluMay7 (all_part aluMay8 (all_part aluMay9 (all_part aluMay10 (all_part aluMay11 (all_part aluMay12 all_done)))))))))))))

theorem aluMayAll (_ : Syms) (j : Nat) (hj : j < 207) : saysTrue (run Try.prog (orElse orc (pickO 15 [(0, 207, j)])) 1000 8 [.sym 0]) = true := aluMayEach j (Nat.zero_le j) hj

end Go.Proofs.Ytmhgboeoiblmhaa.Tab
