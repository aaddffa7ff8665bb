/-
  'FlowOf', run for each number that can be picked.
-/
import Derived.Test.YtgaecdjfgffonaaRef
namespace Go.Proofs.Ytgaecdjfgffonaa.Tab
open Go.Sim
set_option maxRecDepth 100000

noncomputable def flowOfAt [Syms] (m : Nat) : Bool := saysTrue (run Try.prog orcs 1000 4 [.v (.int .i64 (.ofNat m))])

theorem flowOf0 [Syms] : [48, 49, 50, 51].all flowOfAt = true := by kernel_rfl

theorem flowOf1 [Syms] : [52, 53, 54, 55].all flowOfAt = true := by kernel_rfl

theorem flowOf2 [Syms] : [56, 57, 58, 59].all flowOfAt = true := by kernel_rfl

theorem flowOf3 [Syms] : [60, 61, 62, 63].all flowOfAt = true := by kernel_rfl

theorem flowOf4 [Syms] : [64, 65, 66, 67].all flowOfAt = true := by kernel_rfl

theorem flowOf5 [Syms] : [68, 69, 70, 71].all flowOfAt = true := by kernel_rfl

theorem flowOf6 [Syms] : [72, 73, 74, 75].all flowOfAt = true := by kernel_rfl

theorem flowOf7 [Syms] : [76, 77, 78, 79].all flowOfAt = true := by kernel_rfl

theorem flowOf8 [Syms] : [80, 81, 82, 83].all flowOfAt = true := by kernel_rfl

theorem flowOf9 [Syms] : [84, 85, 86, 87].all flowOfAt = true := by kernel_rfl

theorem flowOf10 [Syms] : [88, 89, 90, 91].all flowOfAt = true := by kernel_rfl

theorem flowOf11 [Syms] : [92, 93, 94, 95].all flowOfAt = true := by kernel_rfl

theorem flowOf12 [Syms] : [96, 97, 98, 99].all flowOfAt = true := by kernel_rfl

theorem flowOf13 [Syms] : [100, 101, 102, 103].all flowOfAt = true := by kernel_rfl

theorem flowOf14 [Syms] : [104, 105, 106, 107].all flowOfAt = true := by kernel_rfl

theorem flowOf15 [Syms] : [108, 109, 110, 111].all flowOfAt = true := by kernel_rfl

theorem flowOf16 [Syms] : [112, 113, 114, 115].all flowOfAt = true := by kernel_rfl

def flowOfMask : Nat := 83076749736557242056206466290810880

theorem flowOfMask_lt : flowOfMask < 2 ^ 116 := by decide

theorem flowOfMask_mem : (List.range 116).all (fun m => !bit flowOfMask m || [48, 49, 50, 51, 52, 53, 54, 55, 56, 57, 58, 59, 60, 61, 62, 63, 64, 65, 66, 67, 68, 69, 70, 71, 72, 73, 74, 75, 76, 77, 78, 79, 80, 81, 82, 83, 84, 85, 86, 87, 88, 89, 90, 91, 92, 93, 94, 95, 96, 97, 98, 99, 100, 101, 102, 103, 104, 105, 106, 107, 108, 109, 110, 111, 112, 113, 114, 115].contains m) = true := by kernel_rfl

theorem flowOfNone (a : Int) (ha : ∀ m : Nat, bit flowOfMask m = true → a ≠ (m : Int)) : saysTrue (@run (namesBut a flowOfMask ha) Try.prog orcs 1000 4 [.sym 0]) = true := by kernel_rfl

theorem flowOfEach [Syms] : [48, 49, 50, 51, 52, 53, 54, 55, 56, 57, 58, 59, 60, 61, 62, 63, 64, 65, 66, 67, 68, 69, 70, 71, 72, 73, 74, 75, 76, 77, 78, 79, 80, 81, 82, 83, 84, 85, 86, 87, 88, 89, 90, 91, 92, 93, 94, 95, 96, 97, 98, 99, 100, 101, 102, 103, 104, 105, 106, 107, 108, 109, 110, 111, 112, 113, 114, 115].all flowOfAt = true := by
  have e : [48, 49, 50, 51, 52, 53, 54, 55, 56, 57, 58, 59, 60, 61, 62, 63, 64, 65, 66, 67, 68, 69, 70, 71, 72, 73, 74, 75, 76, 77, 78, 79, 80, 81, 82, 83, 84, 85, 86, 87, 88, 89, 90, 91, 92, 93, 94, 95, 96, 97, 98, 99, 100, 101, 102, 103, 104, 105, 106, 107, 108, 109, 110, 111, 112, 113, 114, 115] = [48, 49, 50, 51] ++ [52, 53, 54, 55] ++ [56, 57, 58, 59] ++ [60, 61, 62, 63] ++ [64, 65, 66, 67] ++ [68, 69, 70, 71] ++ [72, 73, 74, 75] ++ [76, 77, 78, 79] ++ [80, 81, 82, 83] ++ [84, 85, 86, 87] ++ [88, 89, 90, 91] ++ [92, 93, 94, 95] ++ [96, 97, 98, 99] ++ [100, 101, 102, 103] ++ [104, 105, 106, 107] ++ [108, 109, 110, 111] ++ [112, 113, 114, 115] := rfl
  rw [e]
  simp only [List.all_append, Bool.and_eq_true]
  exact ⟨⟨⟨⟨⟨⟨⟨⟨⟨⟨⟨⟨⟨⟨⟨⟨flowOf0, flowOf1⟩, flowOf2⟩, flowOf3⟩, flowOf4⟩, flowOf5⟩, flowOf6⟩, flowOf7⟩, flowOf8⟩, flowOf9⟩, flowOf10⟩, flowOf11⟩, flowOf12⟩, flowOf13⟩, flowOf14⟩, flowOf15⟩, flowOf16⟩

theorem flowOfAll (_ : Syms) (m : Nat) (hm : m < 116) (hb : bit flowOfMask m = true) : saysTrue (run Try.prog orcs 1000 4 [.v (.int .i64 (.ofNat m))]) = true := by
  have h := List.all_eq_true.1 flowOfMask_mem m (List.mem_range.2 hm)
  rw [hb] at h
  exact List.all_eq_true.1 flowOfEach m (List.contains_iff_mem.1 h)

end Go.Proofs.Ytgaecdjfgffonaa.Tab
