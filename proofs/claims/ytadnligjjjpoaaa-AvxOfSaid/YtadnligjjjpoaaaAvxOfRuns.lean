/-
  'AvxOf', run for each number that can be picked.
-/
import Derived.Test.YtadnligjjjpoaaaRef
namespace Go.Proofs.Ytadnligjjjpoaaa.Tab
open Go.Sim
set_option maxRecDepth 100000

noncomputable def avxOfAt [Syms] (m : Nat) : Bool := saysTrue (run Try.prog orcs 1000 4 [.v (.int .i64 (.ofNat m))])

theorem avxOf0 [Syms] : [263, 264, 265, 266].all avxOfAt = true := by kernel_rfl

theorem avxOf1 [Syms] : [267, 268, 269, 270].all avxOfAt = true := by kernel_rfl

theorem avxOf2 [Syms] : [271, 272, 273, 274].all avxOfAt = true := by kernel_rfl

theorem avxOf3 [Syms] : [275, 276, 277, 278].all avxOfAt = true := by kernel_rfl

theorem avxOf4 [Syms] : [279, 280, 281, 282].all avxOfAt = true := by kernel_rfl

theorem avxOf5 [Syms] : [283, 284, 285, 286].all avxOfAt = true := by kernel_rfl

theorem avxOf6 [Syms] : [287, 288, 289, 290].all avxOfAt = true := by kernel_rfl

theorem avxOf7 [Syms] : [291, 292, 293, 294].all avxOfAt = true := by kernel_rfl

theorem avxOf8 [Syms] : [295, 296, 297, 298].all avxOfAt = true := by kernel_rfl

theorem avxOf9 [Syms] : [299, 300, 301, 302].all avxOfAt = true := by kernel_rfl

theorem avxOf10 [Syms] : [303, 304, 305, 306].all avxOfAt = true := by kernel_rfl

theorem avxOf11 [Syms] : [307, 308, 309, 310].all avxOfAt = true := by kernel_rfl

theorem avxOf12 [Syms] : [311, 312, 313, 314].all avxOfAt = true := by kernel_rfl

theorem avxOf13 [Syms] : [315, 316, 317, 318].all avxOfAt = true := by kernel_rfl

theorem avxOf14 [Syms] : [319, 320, 321, 322].all avxOfAt = true := by kernel_rfl

def avxOfMask : Nat := 17087896287367280644338786226979943902604550097741169954357774825375765609194553647170816101580800

theorem avxOfMask_lt : avxOfMask < 2 ^ 323 := of_decide_eq_true (by kernel_rfl)

theorem avxOfMask_mem : (List.range 323).all (fun m => !bit avxOfMask m || [263, 264, 265, 266, 267, 268, 269, 270, 271, 272, 273, 274, 275, 276, 277, 278, 279, 280, 281, 282, 283, 284, 285, 286, 287, 288, 289, 290, 291, 292, 293, 294, 295, 296, 297, 298, 299, 300, 301, 302, 303, 304, 305, 306, 307, 308, 309, 310, 311, 312, 313, 314, 315, 316, 317, 318, 319, 320, 321, 322].contains m) = true := by kernel_rfl

theorem avxOfNone (a : Int) (ha : ∀ m : Nat, bit avxOfMask m = true → a ≠ (m : Int)) : saysTrue (@run (namesBut a avxOfMask ha) Try.prog orcs 1000 4 [.sym 0]) = true := by kernel_rfl

theorem avxOfEach [Syms] : [263, 264, 265, 266, 267, 268, 269, 270, 271, 272, 273, 274, 275, 276, 277, 278, 279, 280, 281, 282, 283, 284, 285, 286, 287, 288, 289, 290, 291, 292, 293, 294, 295, 296, 297, 298, 299, 300, 301, 302, 303, 304, 305, 306, 307, 308, 309, 310, 311, 312, 313, 314, 315, 316, 317, 318, 319, 320, 321, 322].all avxOfAt = true := by
  have e : [263, 264, 265, 266, 267, 268, 269, 270, 271, 272, 273, 274, 275, 276, 277, 278, 279, 280, 281, 282, 283, 284, 285, 286, 287, 288, 289, 290, 291, 292, 293, 294, 295, 296, 297, 298, 299, 300, 301, 302, 303, 304, 305, 306, 307, 308, 309, 310, 311, 312, 313, 314, 315, 316, 317, 318, 319, 320, 321, 322] = [263, 264, 265, 266] ++ [267, 268, 269, 270] ++ [271, 272, 273, 274] ++ [275, 276, 277, 278] ++ [279, 280, 281, 282] ++ [283, 284, 285, 286] ++ [287, 288, 289, 290] ++ [291, 292, 293, 294] ++ [295, 296, 297, 298] ++ [299, 300, 301, 302] ++ [303, 304, 305, 306] ++ [307, 308, 309, 310] ++ [311, 312, 313, 314] ++ [315, 316, 317, 318] ++ [319, 320, 321, 322] := rfl
  rw [e]
  simp only [List.all_append, Bool.and_eq_true]
  exact ⟨⟨⟨⟨⟨⟨⟨⟨⟨⟨⟨⟨⟨⟨avxOf0, avxOf1⟩, avxOf2⟩, avxOf3⟩, avxOf4⟩, avxOf5⟩, avxOf6⟩, avxOf7⟩, avxOf8⟩, avxOf9⟩, avxOf10⟩, avxOf11⟩, avxOf12⟩, avxOf13⟩, avxOf14⟩

theorem avxOfAll (_ : Syms) (m : Nat) (hm : m < 323) (hb : bit avxOfMask m = true) : saysTrue (run Try.prog orcs 1000 4 [.v (.int .i64 (.ofNat m))]) = true := by
  have h := List.all_eq_true.1 avxOfMask_mem m (List.mem_range.2 hm)
  rw [hb] at h
  exact List.all_eq_true.1 avxOfEach m (List.contains_iff_mem.1 h)

end Go.Proofs.Ytadnligjjjpoaaa.Tab
