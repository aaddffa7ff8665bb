/-
  'AluEight', run for each number that can be picked.
-/
import Derived.Test.YtmhgboeoiblmhaaTab
import Derived.Test.YtmhgboeoiblmhaaPick
namespace Go.Proofs.Ytmhgboeoiblmhaa.Tab
open Go.Sim
set_option maxRecDepth 100000

noncomputable def aluEightAt [Syms] (x : Nat) : Bool := saysTrue (run Try.prog (orElse orc (pickO 15 [(0, 8, Nat.div x 8), (1, 8, Nat.mod x 8)])) 1000 5 [.sym 0, .sym 1])

theorem aluEight0 [Syms] : (List.range' 0 3).all aluEightAt = true := by kernel_rfl

theorem aluEight1 [Syms] : (List.range' 3 3).all aluEightAt = true := by kernel_rfl

theorem aluEight2 [Syms] : (List.range' 6 3).all aluEightAt = true := by kernel_rfl

theorem aluEight3 [Syms] : (List.range' 9 3).all aluEightAt = true := by kernel_rfl

theorem aluEight4 [Syms] : (List.range' 12 3).all aluEightAt = true := by kernel_rfl

theorem aluEight5 [Syms] : (List.range' 15 3).all aluEightAt = true := by kernel_rfl

theorem aluEight6 [Syms] : (List.range' 18 3).all aluEightAt = true := by kernel_rfl

theorem aluEight7 [Syms] : (List.range' 21 3).all aluEightAt = true := by kernel_rfl

theorem aluEight8 [Syms] : (List.range' 24 3).all aluEightAt = true := by kernel_rfl

theorem aluEight9 [Syms] : (List.range' 27 3).all aluEightAt = true := by kernel_rfl

theorem aluEight10 [Syms] : (List.range' 30 3).all aluEightAt = true := by kernel_rfl

theorem aluEight11 [Syms] : (List.range' 33 3).all aluEightAt = true := by kernel_rfl

theorem aluEight12 [Syms] : (List.range' 36 3).all aluEightAt = true := by kernel_rfl

theorem aluEight13 [Syms] : (List.range' 39 3).all aluEightAt = true := by kernel_rfl

theorem aluEight14 [Syms] : (List.range' 42 3).all aluEightAt = true := by kernel_rfl

theorem aluEight15 [Syms] : (List.range' 45 3).all aluEightAt = true := by kernel_rfl

theorem aluEight16 [Syms] : (List.range' 48 3).all aluEightAt = true := by kernel_rfl

theorem aluEight17 [Syms] : (List.range' 51 3).all aluEightAt = true := by kernel_rfl

theorem aluEight18 [Syms] : (List.range' 54 3).all aluEightAt = true := by kernel_rfl

theorem aluEight19 [Syms] : (List.range' 57 3).all aluEightAt = true := by kernel_rfl

theorem aluEight20 [Syms] : (List.range' 60 3).all aluEightAt = true := by kernel_rfl

theorem aluEight21 [Syms] : (List.range' 63 1).all aluEightAt = true := by kernel_rfl

theorem aluEightEach [Syms] : ∀ j, 0 ≤ j → j < 64 → aluEightAt j = true := (all_part aluEight0 (all_part aluEight1 (all_part aluEight2 (all_part aluEight3 (all_part aluEight4 (all_part aluEight5 (all_part aluEight6 (all_part aluEight7 (all_part aluEight8 (all_part aluEight9 (all_part aluEight10 (all_part aluEight11 (all_part aluEight12 (all_part aluEight13 (all_part aluEight14 (all_part aluEight15 (all_part aluEight16 (all_part aluEight17 (all_part aluEight18 (all_part aluEight19 (all_part aluEight20 (all_part aluEight21 all_done))))))))))))))))))))))

theorem aluEightAll (_ : Syms) (j k : Nat) (hj : j < 8) (hk : k < 8) : saysTrue (run Try.prog (orElse orc (pickO 15 [(0, 8, j), (1, 8, k)])) 1000 5 [.sym 0, .sym 1]) = true := by
  have h := aluEightEach (j * 8 + k) (Nat.zero_le _) (by omega)
  have h1 : Nat.div (j * 8 + k) 8 = j := by show (j * 8 + k) / 8 = j; omega
  have h2 : Nat.mod (j * 8 + k) 8 = k := by show (j * 8 + k) % 8 = k; omega
  unfold aluEightAt at h
  rw [h1, h2] at h
  exact h

end Go.Proofs.Ytmhgboeoiblmhaa.Tab
