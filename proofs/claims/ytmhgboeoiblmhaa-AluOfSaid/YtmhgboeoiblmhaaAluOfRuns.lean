/-
  'AluOf', run for each number that can be picked.
-/
import Derived.Test.YtmhgboeoiblmhaaRef
namespace Go.Proofs.Ytmhgboeoiblmhaa.Tab
open Go.Sim
set_option maxRecDepth 100000

noncomputable def aluOfAt [Syms] (m : Nat) : Bool := saysTrue (run Try.prog orcs 1000 4 [.v (.int .i64 (.ofNat m))])

theorem aluOf0 [Syms] : [1, 2].all aluOfAt = true := by kernel_rfl

theorem aluOf1 [Syms] : [3, 4].all aluOfAt = true := by kernel_rfl

theorem aluOf2 [Syms] : [5, 6].all aluOfAt = true := by kernel_rfl

theorem aluOf3 [Syms] : [7, 8].all aluOfAt = true := by kernel_rfl

theorem aluOf4 [Syms] : [9, 10].all aluOfAt = true := by kernel_rfl

theorem aluOf5 [Syms] : [11, 12].all aluOfAt = true := by kernel_rfl

theorem aluOf6 [Syms] : [13, 14].all aluOfAt = true := by kernel_rfl

theorem aluOf7 [Syms] : [15, 16].all aluOfAt = true := by kernel_rfl

def aluOfMask : Nat := 131070

theorem aluOfMask_lt : aluOfMask < 2 ^ 17 := of_decide_eq_true (by kernel_rfl)

theorem aluOfMask_mem : (List.range 17).all (fun m => !bit aluOfMask m || [1, 2, 3, 4, 5, 6, 7, 8, 9, 10, 11, 12, 13, 14, 15, 16].contains m) = true := by kernel_rfl

theorem aluOfNone (a : Int) (ha : ∀ m : Nat, bit aluOfMask m = true → a ≠ (m : Int)) : saysTrue (@run (namesBut a aluOfMask ha) Try.prog orcs 1000 4 [.sym 0]) = true := by kernel_rfl

theorem aluOfEach [Syms] : [1, 2, 3, 4, 5, 6, 7, 8, 9, 10, 11, 12, 13, 14, 15, 16].all aluOfAt = true := by
  have e : [1, 2, 3, 4, 5, 6, 7, 8, 9, 10, 11, 12, 13, 14, 15, 16] = [1, 2] ++ [3, 4] ++ [5, 6] ++ [7, 8] ++ [9, 10] ++ [11, 12] ++ [13, 14] ++ [15, 16] := rfl
  rw [e]
  simp only [List.all_append, Bool.and_eq_true]
  exact ⟨⟨⟨⟨⟨⟨⟨aluOf0, aluOf1⟩, aluOf2⟩, aluOf3⟩, aluOf4⟩, aluOf5⟩, aluOf6⟩, aluOf7⟩

theorem aluOfAll (_ : Syms) (m : Nat) (hm : m < 17) (hb : bit aluOfMask m = true) : saysTrue (run Try.prog orcs 1000 4 [.v (.int .i64 (.ofNat m))]) = true := by
  have h := List.all_eq_true.1 aluOfMask_mem m (List.mem_range.2 hm)
  rw [hb] at h
  exact List.all_eq_true.1 aluOfEach m (List.contains_iff_mem.1 h)

end Go.Proofs.Ytmhgboeoiblmhaa.Tab
