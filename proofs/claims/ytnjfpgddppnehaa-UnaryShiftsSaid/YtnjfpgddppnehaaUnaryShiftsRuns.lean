/-
  'UnaryShifts', run for each number that can be picked.
-/
import Derived.Test.YtnjfpgddppnehaaTab
import Derived.Test.YtnjfpgddppnehaaPick
namespace Go.Proofs.Ytnjfpgddppnehaa.Tab
open Go.Sim
set_option maxRecDepth 100000

noncomputable def unaryShiftsAt [Syms] (x : Nat) : Bool := saysTrue (run Try.prog (orElse orc (pickO 13 [(0, 7, Nat.div x 7), (1, 7, Nat.mod x 7)])) 1000 4 [.sym 0, .sym 1])

theorem unaryShifts0 [Syms] : (List.range' 0 3).all unaryShiftsAt = true := by kernel_rfl

theorem unaryShifts1 [Syms] : (List.range' 3 3).all unaryShiftsAt = true := by kernel_rfl

theorem unaryShifts2 [Syms] : (List.range' 6 3).all unaryShiftsAt = true := by kernel_rfl

theorem unaryShifts3 [Syms] : (List.range' 9 3).all unaryShiftsAt = true := by kernel_rfl

theorem unaryShifts4 [Syms] : (List.range' 12 3).all unaryShiftsAt = true := by kernel_rfl

theorem unaryShifts5 [Syms] : (List.range' 15 3).all unaryShiftsAt = true := by kernel_rfl

theorem unaryShifts6 [Syms] : (List.range' 18 3).all unaryShiftsAt = true := by kernel_rfl

theorem unaryShifts7 [Syms] : (List.range' 21 3).all unaryShiftsAt = true := by kernel_rfl

theorem unaryShifts8 [Syms] : (List.range' 24 3).all unaryShiftsAt = true := by kernel_rfl

theorem unaryShifts9 [Syms] : (List.range' 27 3).all unaryShiftsAt = true := by kernel_rfl

theorem unaryShifts10 [Syms] : (List.range' 30 3).all unaryShiftsAt = true := by kernel_rfl

theorem unaryShifts11 [Syms] : (List.range' 33 3).all unaryShiftsAt = true := by kernel_rfl

theorem unaryShifts12 [Syms] : (List.range' 36 3).all unaryShiftsAt = true := by kernel_rfl

theorem unaryShifts13 [Syms] : (List.range' 39 3).all unaryShiftsAt = true := by kernel_rfl

theorem unaryShifts14 [Syms] : (List.range' 42 3).all unaryShiftsAt = true := by kernel_rfl

theorem unaryShifts15 [Syms] : (List.range' 45 3).all unaryShiftsAt = true := by kernel_rfl

theorem unaryShifts16 [Syms] : (List.range' 48 1).all unaryShiftsAt = true := by kernel_rfl

theorem unaryShiftsEach [Syms] : ∀ j, 0 ≤ j → j < 49 → unaryShiftsAt j = true := (all_part unaryShifts0 (all_part unaryShifts1 (all_part unaryShifts2 (all_part unaryShifts3 (all_part unaryShifts4 (all_part unaryShifts5 (all_part unaryShifts6 (all_part unaryShifts7 (all_part unaryShifts8 (all_part unaryShifts9 (all_part unaryShifts10 (all_part unaryShifts11 (all_part unaryShifts12 (all_part unaryShifts13 (all_part unaryShifts14 (all_part unaryShifts15 (all_part unaryShifts16 all_done)))))))))))))))))

theorem unaryShiftsAll (_ : Syms) (j k : Nat) (hj : j < 7) (hk : k < 7) : saysTrue (run Try.prog (orElse orc (pickO 13 [(0, 7, j), (1, 7, k)])) 1000 4 [.sym 0, .sym 1]) = true := by
  have h := unaryShiftsEach (j * 7 + k) (Nat.zero_le _) (by omega)
  have h1 : Nat.div (j * 7 + k) 7 = j := by show (j * 7 + k) / 7 = j; omega
  have h2 : Nat.mod (j * 7 + k) 7 = k := by show (j * 7 + k) % 7 = k; omega
  unfold unaryShiftsAt at h
  rw [h1, h2] at h
  exact h

end Go.Proofs.Ytnjfpgddppnehaa.Tab
