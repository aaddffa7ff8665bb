/-
  'AvxPairs', run for each number that can be picked.
-/
import Derived.Test.YtadnligjjjpoaaaTab
import Derived.Test.YtadnligjjjpoaaaPick
namespace Go.Proofs.Ytadnligjjjpoaaa.Tab
open Go.Sim
set_option maxRecDepth 100000

noncomputable def avxPairsAt [Syms] (j : Nat) : Bool := saysTrue (run Try.prog (orElse orc (pickO 15 [(0, 121, j)])) 1000 7 [.sym 0])

theorem avxPairs0 [Syms] : (List.range' 0 16).all avxPairsAt = true := by kernel_rfl

theorem avxPairs1 [Syms] : (List.range' 16 16).all avxPairsAt = true := by kernel_rfl

theorem avxPairs2 [Syms] : (List.range' 32 16).all avxPairsAt = true := by kernel_rfl

theorem avxPairs3 [Syms] : (List.range' 48 16).all avxPairsAt = true := by kernel_rfl

theorem avxPairs4 [Syms] : (List.range' 64 16).all avxPairsAt = true := by kernel_rfl

theorem avxPairs5 [Syms] : (List.range' 80 16).all avxPairsAt = true := by kernel_rfl

theorem avxPairs6 [Syms] : (List.range' 96 16).all avxPairsAt = true := by kernel_rfl

theorem avxPairs7 [Syms] : (List.range' 112 9).all avxPairsAt = true := by kernel_rfl

theorem avxPairsEach [Syms] : ∀ j, 0 ≤ j → j < 121 → avxPairsAt j = true := (all_part avxPairs0 (all_part avxPairs1 (all_part avxPairs2 (all_part avxPairs3 (all_part avxPairs4 (all_part avxPairs5 (all_part avxPairs6 (all_part avxPairs7 all_done))))))))

theorem avxPairsAll (_ : Syms) (j : Nat) (hj : j < 121) : saysTrue (run Try.prog (orElse orc (pickO 15 [(0, 121, j)])) 1000 7 [.sym 0]) = true := avxPairsEach j (Nat.zero_le j) hj

end Go.Proofs.Ytadnligjjjpoaaa.Tab
