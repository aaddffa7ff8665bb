/-
  'AvxMay', run for each number that can be picked.
-/
import Derived.Test.YtadnligjjjpoaaaTab
import Derived.Test.YtadnligjjjpoaaaPick
namespace Go.Proofs.Ytadnligjjjpoaaa.Tab
open Go.Sim
set_option maxRecDepth 100000

noncomputable def avxMayAt [Syms] (j : Nat) : Bool := saysTrue (run Try.prog (orElse orc (pickO 15 [(0, 122, j)])) 1000 8 [.sym 0])

theorem avxMay0 [Syms] : (List.range' 0 16).all avxMayAt = true := by kernel_rfl

theorem avxMay1 [Syms] : (List.range' 16 16).all avxMayAt = true := by kernel_rfl

theorem avxMay2 [Syms] : (List.range' 32 16).all avxMayAt = true := by kernel_rfl

theorem avxMay3 [Syms] : (List.range' 48 16).all avxMayAt = true := by kernel_rfl

theorem avxMay4 [Syms] : (List.range' 64 16).all avxMayAt = true := by kernel_rfl

theorem avxMay5 [Syms] : (List.range' 80 16).all avxMayAt = true := by kernel_rfl

theorem avxMay6 [Syms] : (List.range' 96 16).all avxMayAt = true := by kernel_rfl

theorem avxMay7 [Syms] : (List.range' 112 10).all avxMayAt = true := by kernel_rfl

theorem avxMayEach [Syms] : ∀ j, 0 ≤ j → j < 122 → avxMayAt j = true := (all_part avxMay0 (all_part avxMay1 (all_part avxMay2 (all_part avxMay3 (all_part avxMay4 (all_part avxMay5 (all_part avxMay6 (all_part avxMay7 all_done))))))))

theorem avxMayAll (_ : Syms) (j : Nat) (hj : j < 122) : saysTrue (run Try.prog (orElse orc (pickO 15 [(0, 122, j)])) 1000 8 [.sym 0]) = true := avxMayEach j (Nat.zero_le j) hj

end Go.Proofs.Ytadnligjjjpoaaa.Tab
