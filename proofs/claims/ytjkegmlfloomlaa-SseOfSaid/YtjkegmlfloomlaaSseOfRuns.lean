/-
  'SseOf', run for each number that can be picked.
-/
import Derived.Test.YtjkegmlfloomlaaRef
namespace Go.Proofs.Ytjkegmlfloomlaa.Tab
open Go.Sim
set_option maxRecDepth 100000

noncomputable def sseOfAt [Syms] (m : Nat) : Bool := saysTrue (run Try.prog orcs 1000 4 [.v (.int .i64 (.ofNat m))])

theorem sseOf0 [Syms] : [136, 137, 138, 139].all sseOfAt = true := by kernel_rfl

theorem sseOf1 [Syms] : [140, 141, 142, 143].all sseOfAt = true := by kernel_rfl

theorem sseOf2 [Syms] : [144, 145, 146, 147].all sseOfAt = true := by kernel_rfl

theorem sseOf3 [Syms] : [148, 149, 150, 151].all sseOfAt = true := by kernel_rfl

theorem sseOf4 [Syms] : [152, 153, 154, 155].all sseOfAt = true := by kernel_rfl

theorem sseOf5 [Syms] : [156, 157, 158, 159].all sseOfAt = true := by kernel_rfl

theorem sseOf6 [Syms] : [160, 161, 162, 163].all sseOfAt = true := by kernel_rfl

theorem sseOf7 [Syms] : [164, 165, 166, 167].all sseOfAt = true := by kernel_rfl

theorem sseOf8 [Syms] : [168, 169, 170, 171].all sseOfAt = true := by kernel_rfl

theorem sseOf9 [Syms] : [172, 173, 174, 175].all sseOfAt = true := by kernel_rfl

theorem sseOf10 [Syms] : [176, 177, 178, 179].all sseOfAt = true := by kernel_rfl

theorem sseOf11 [Syms] : [180, 181, 182, 183].all sseOfAt = true := by kernel_rfl

theorem sseOf12 [Syms] : [184, 185, 186, 187].all sseOfAt = true := by kernel_rfl

theorem sseOf13 [Syms] : [188, 189, 190, 191].all sseOfAt = true := by kernel_rfl

theorem sseOf14 [Syms] : [192, 193, 194, 195].all sseOfAt = true := by kernel_rfl

theorem sseOf15 [Syms] : [196, 197, 198, 199].all sseOfAt = true := by kernel_rfl

theorem sseOf16 [Syms] : [200, 201, 202, 203].all sseOfAt = true := by kernel_rfl

theorem sseOf17 [Syms] : [204, 205, 206, 207].all sseOfAt = true := by kernel_rfl

theorem sseOf18 [Syms] : [208, 209, 210, 211].all sseOfAt = true := by kernel_rfl

theorem sseOf19 [Syms] : [212, 213, 214, 215].all sseOfAt = true := by kernel_rfl

theorem sseOf20 [Syms] : [216, 217, 218, 219].all sseOfAt = true := by kernel_rfl

theorem sseOf21 [Syms] : [220, 221, 222, 223].all sseOfAt = true := by kernel_rfl

theorem sseOf22 [Syms] : [224, 225, 226, 227].all sseOfAt = true := by kernel_rfl

theorem sseOf23 [Syms] : [228, 229, 230, 231].all sseOfAt = true := by kernel_rfl

theorem sseOf24 [Syms] : [232, 233, 234, 235].all sseOfAt = true := by kernel_rfl

theorem sseOf25 [Syms] : [236, 237, 238, 239].all sseOfAt = true := by kernel_rfl

theorem sseOf26 [Syms] : [240, 241, 242, 243].all sseOfAt = true := by kernel_rfl

theorem sseOf27 [Syms] : [244, 245, 246, 247].all sseOfAt = true := by kernel_rfl

theorem sseOf28 [Syms] : [248, 249, 250, 251].all sseOfAt = true := by kernel_rfl

theorem sseOf29 [Syms] : [252, 253, 254, 255].all sseOfAt = true := by kernel_rfl

theorem sseOf30 [Syms] : [256, 257, 258, 259].all sseOfAt = true := by kernel_rfl

theorem sseOf31 [Syms] : [260, 261, 262].all sseOfAt = true := by kernel_rfl

def sseOfMask : Nat := 14821387422376473014217086081112052205131445751270231950403946853510347931779072

theorem sseOfMask_lt : sseOfMask < 2 ^ 263 := of_decide_eq_true (by kernel_rfl)

theorem sseOfMask_mem : (List.range 263).all (fun m => !bit sseOfMask m || [136, 137, 138, 139, 140, 141, 142, 143, 144, 145, 146, 147, 148, 149, 150, 151, 152, 153, 154, 155, 156, 157, 158, 159, 160, 161, 162, 163, 164, 165, 166, 167, 168, 169, 170, 171, 172, 173, 174, 175, 176, 177, 178, 179, 180, 181, 182, 183, 184, 185, 186, 187, 188, 189, 190, 191, 192, 193, 194, 195, 196, 197, 198, 199, 200, 201, 202, 203, 204, 205, 206, 207, 208, 209, 210, 211, 212, 213, 214, 215, 216, 217, 218, 219, 220, 221, 222, 223, 224, 225, 226, 227, 228, 229, 230, 231, 232, 233, 234, 235, 236, 237, 238, 239, 240, 241, 242, 243, 244, 245, 246, 247, 248, 249, 250, 251, 252, 253, 254, 255, 256, 257, 258, 259, 260, 261, 262].contains m) = true := by kernel_rfl

theorem sseOfNone (a : Int) (ha : ∀ m : Nat, bit sseOfMask m = true → a ≠ (m : Int)) : saysTrue (@run (namesBut a sseOfMask ha) Try.prog orcs 1000 4 [.sym 0]) = true := by kernel_rfl

theorem sseOfEach [Syms] : [136, 137, 138, 139, 140, 141, 142, 143, 144, 145, 146, 147, 148, 149, 150, 151, 152, 153, 154, 155, 156, 157, 158, 159, 160, 161, 162, 163, 164, 165, 166, 167, 168, 169, 170, 171, 172, 173, 174, 175, 176, 177, 178, 179, 180, 181, 182, 183, 184, 185, 186, 187, 188, 189, 190, 191, 192, 193, 194, 195, 196, 197, 198, 199, 200, 201, 202, 203, 204, 205, 206, 207, 208, 209, 210, 211, 212, 213, 214, 215, 216, 217, 218, 219, 220, 221, 222, 223, 224, 225, 226, 227, 228, 229, 230, 231, 232, 233, 234, 235, 236, 237, 238, 239, 240, 241, 242, 243, 244, 245, 246, 247, 248, 249, 250, 251, 252, 253, 254, 255, 256, 257, 258, 259, 260, 261, 262].all sseOfAt = true := by
  have e : [136, 137, 138, 139, 140, 141, 142, 143, 144, 145, 146, 147, 148, 149, 150, 151, 152, 153, 154, 155, 156, 157, 158, 159, 160, 161, 162, 163, 164, 165, 166, 167, 168, 169, 170, 171, 172, 173, 174, 175, 176, 177, 178, 179, 180, 181, 182, 183, 184, 185, 186, 187, 188, 189, 190, 191, 192, 193, 194, 195, 196, 197, 198, 199, 200, 201, 202, 203, 204, 205, 206, 207, 208, 209, 210, 211, 212, 213, 214, 215, 216, 217, 218, 219, 220, 221, 222, 223, 224, 225, 226, 227, 228, 229, 230, 231, 232, 233, 234, 235, 236, 237, 238, 239, 240, 241, 242, 243, 244, 245, 246, 247, 248, 249, 250, 251, 252, 253, 254, 255, 256, 257, 258, 259, 260, 261, 262] = [136, 137, 138, 139] ++ [140, 141, 142, 143] ++ [144, 145, 146, 147] ++ [148, 149, 150, 151] ++ [152, 153, 154, 155] ++ [156, 157, 158, 159] ++ [160, 161, 162, 163] ++ [164, 165, 166, 167] ++ [168, 169, 170, 171] ++ [172, 173, 174, 175] ++ [176, 177, 178, 179] ++ [180, 181, 182, 183] ++ [184, 185, 186, 187] ++ [188, 189, 190, 191] ++ [192, 193, 194, 195] ++ [196, 197, 198, 199] ++ [200, 201, 202, 203] ++ [204, 205, 206, 207] ++ [208, 209, 210, 211] ++ [212, 213, 214, 215] ++ [216, 217, 218, 219] ++ [220, 221, 222, 223] ++ [224, 225, 226, 227] ++ [228, 229, 230, 231] ++ [232, 233, 234, 235] ++ [236, 237, 238, 239] ++ [240, 241, 242, 243] ++ [244, 245, 246, 247] ++ [248, 249, 250, 251] ++ [252, 253, 254, 255] ++ [256, 257, 258, 259] ++ [260, 261, 262] := rfl
  rw [e]
  simp only [List.all_append, Bool.and_eq_true]
  exact ⟨⟨⟨⟨⟨⟨⟨⟨⟨⟨⟨⟨⟨⟨⟨⟨⟨⟨⟨⟨⟨⟨⟨⟨⟨⟨⟨⟨⟨⟨⟨sseOf0, sseOf1⟩, sseOf2⟩, sseOf3⟩, sseOf4⟩, sseOf5⟩, sseOf6⟩, sseOf7⟩, sseOf8⟩, sseOf9⟩, sseOf10⟩, sseOf11⟩, sseOf12⟩, sseOf13⟩, sseOf14⟩, sseOf15⟩, sseOf16⟩, sseOf17⟩, sseOf18⟩, sseOf19⟩, sseOf20⟩, sseOf21⟩, sseOf22⟩, sseOf23⟩, sseOf24⟩, sseOf25⟩, sseOf26⟩, sseOf27⟩, sseOf28⟩, sseOf29⟩, sseOf30⟩, sseOf31⟩

theorem sseOfAll (_ : Syms) (m : Nat) (hm : m < 263) (hb : bit sseOfMask m = true) : saysTrue (run Try.prog orcs 1000 4 [.v (.int .i64 (.ofNat m))]) = true := by
  have h := List.all_eq_true.1 sseOfMask_mem m (List.mem_range.2 hm)
  rw [hb] at h
  exact List.all_eq_true.1 sseOfEach m (List.contains_iff_mem.1 h)

end Go.Proofs.Ytjkegmlfloomlaa.Tab
