/-
  'SseAll', run for each number that can be picked.
-/
import Derived.Test.YtjkegmlfloomlaaTab
import Derived.Test.YtjkegmlfloomlaaPick
namespace Go.Proofs.Ytjkegmlfloomlaa.Tab
open Go.Sim
set_option maxRecDepth 100000

noncomputable def sseAllAt [Syms] (j : Nat) : Bool := saysTrue (run Try.prog (orElse orc (pickO 15 [(0, 127, j)])) 1000 7 [.sym 0])

theorem sseAll0 [Syms] : (List.range' 0 8).all sseAllAt = true := by kernel_rfl

theorem sseAll1 [Syms] : (List.range' 8 8).all sseAllAt = true := by kernel_rfl

theorem sseAll2 [Syms] : (List.range' 16 8).all sseAllAt = true := by kernel_rfl

theorem sseAll3 [Syms] : (List.range' 24 8).all sseAllAt = true := by kernel_rfl

theorem sseAll4 [Syms] : (List.range' 32 8).all sseAllAt = true := by kernel_rfl

theorem sseAll5 [Syms] : (List.range' 40 8).all sseAllAt = true := by kernel_rfl

theorem sseAll6 [Syms] : (List.range' 48 8).all sseAllAt = true := by kernel_rfl

theorem sseAll7 [Syms] : (List.range' 56 8).all sseAllAt = true := by kernel_rfl

theorem sseAll8 [Syms] : (List.range' 64 8).all sseAllAt = true := by kernel_rfl

theorem sseAll9 [Syms] : (List.range' 72 8).all sseAllAt = true := by kernel_rfl

theorem sseAll10 [Syms] : (List.range' 80 8).all sseAllAt = true := by kernel_rfl

theorem sseAll11 [Syms] : (List.range' 88 8).all sseAllAt = true := by kernel_rfl

theorem sseAll12 [Syms] : (List.range' 96 8).all sseAllAt = true := by kernel_rfl

theorem sseAll13 [Syms] : (List.range' 104 8).all sseAllAt = true := by kernel_rfl

theorem sseAll14 [Syms] : (List.range' 112 8).all sseAllAt = true := by kernel_rfl

theorem sseAll15 [Syms] : (List.range' 120 7).all sseAllAt = true := by kernel_rfl

theorem sseAllEach [Syms] : ∀ j, 0 ≤ j → j < 127 → sseAllAt j = true := (all_part sseAll0 (all_part sseAll1 (all_part sseAll2 (all_part sseAll3 (all_part sseAll4 (all_part sseAll5 (all_part sseAll6 (all_part sseAll7 (all_part sseAll8 (all_part sseAll9 (all_part sseAll10 (all_part sseAll11 (all_part sseAll12 (all_part sseAll13 (all_part sseAll14 (all_part sseAll15 all_done))))))))))))))))

theorem sseAllAll (_ : Syms) (j : Nat) (hj : j < 127) : saysTrue (run Try.prog (orElse orc (pickO 15 [(0, 127, j)])) 1000 7 [.sym 0]) = true := sseAllEach j (Nat.zero_le j) hj

end Go.Proofs.Ytjkegmlfloomlaa.Tab
