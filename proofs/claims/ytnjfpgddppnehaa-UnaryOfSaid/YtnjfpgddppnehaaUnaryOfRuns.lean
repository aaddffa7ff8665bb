/-
  'UnaryOf', run for each number that can be picked.
-/
import Derived.Test.YtnjfpgddppnehaaRef
namespace Go.Proofs.Ytnjfpgddppnehaa.Tab
open Go.Sim
set_option maxRecDepth 100000

noncomputable def unaryOfAt [Syms] (m : Nat) : Bool := saysTrue (run Try.prog orcs 1000 3 [.v (.int .i64 (.ofNat m))])

theorem unaryOf0 [Syms] : [16, 17, 18].all unaryOfAt = true := by kernel_rfl

theorem unaryOf1 [Syms] : [19, 20, 21].all unaryOfAt = true := by kernel_rfl

theorem unaryOf2 [Syms] : [22, 23, 24].all unaryOfAt = true := by kernel_rfl

theorem unaryOf3 [Syms] : [25, 26, 27].all unaryOfAt = true := by kernel_rfl

theorem unaryOf4 [Syms] : [28, 29, 30].all unaryOfAt = true := by kernel_rfl

theorem unaryOf5 [Syms] : [31, 32, 33].all unaryOfAt = true := by kernel_rfl

theorem unaryOf6 [Syms] : [34, 35, 36].all unaryOfAt = true := by kernel_rfl

theorem unaryOf7 [Syms] : [37, 38, 39].all unaryOfAt = true := by kernel_rfl

theorem unaryOf8 [Syms] : [40, 41, 42].all unaryOfAt = true := by kernel_rfl

theorem unaryOf9 [Syms] : [43, 44, 45].all unaryOfAt = true := by kernel_rfl

theorem unaryOf10 [Syms] : [46, 47].all unaryOfAt = true := by kernel_rfl

def unaryOfMask : Nat := 281474976645120

theorem unaryOfMask_lt : unaryOfMask < 2 ^ 48 := of_decide_eq_true (by kernel_rfl)

theorem unaryOfMask_mem : (List.range 48).all (fun m => !bit unaryOfMask m || [16, 17, 18, 19, 20, 21, 22, 23, 24, 25, 26, 27, 28, 29, 30, 31, 32, 33, 34, 35, 36, 37, 38, 39, 40, 41, 42, 43, 44, 45, 46, 47].contains m) = true := by kernel_rfl

theorem unaryOfNone (a : Int) (ha : ∀ m : Nat, bit unaryOfMask m = true → a ≠ (m : Int)) : saysTrue (@run (namesBut a unaryOfMask ha) Try.prog orcs 1000 3 [.sym 0]) = true := by kernel_rfl

theorem unaryOfEach [Syms] : [16, 17, 18, 19, 20, 21, 22, 23, 24, 25, 26, 27, 28, 29, 30, 31, 32, 33, 34, 35, 36, 37, 38, 39, 40, 41, 42, 43, 44, 45, 46, 47].all unaryOfAt = true := by
  have e : [16, 17, 18, 19, 20, 21, 22, 23, 24, 25, 26, 27, 28, 29, 30, 31, 32, 33, 34, 35, 36, 37, 38, 39, 40, 41, 42, 43, 44, 45, 46, 47] = [16, 17, 18] ++ [19, 20, 21] ++ [22, 23, 24] ++ [25, 26, 27] ++ [28, 29, 30] ++ [31, 32, 33] ++ [34, 35, 36] ++ [37, 38, 39] ++ [40, 41, 42] ++ [43, 44, 45] ++ [46, 47] := rfl
  rw [e]
  simp only [List.all_append, Bool.and_eq_true]
  exact ⟨⟨⟨⟨⟨⟨⟨⟨⟨⟨unaryOf0, unaryOf1⟩, unaryOf2⟩, unaryOf3⟩, unaryOf4⟩, unaryOf5⟩, unaryOf6⟩, unaryOf7⟩, unaryOf8⟩, unaryOf9⟩, unaryOf10⟩

theorem unaryOfAll (_ : Syms) (m : Nat) (hm : m < 48) (hb : bit unaryOfMask m = true) : saysTrue (run Try.prog orcs 1000 3 [.v (.int .i64 (.ofNat m))]) = true := by
  have h := List.all_eq_true.1 unaryOfMask_mem m (List.mem_range.2 hm)
  rw [hb] at h
  exact List.all_eq_true.1 unaryOfEach m (List.contains_iff_mem.1 h)

end Go.Proofs.Ytnjfpgddppnehaa.Tab
