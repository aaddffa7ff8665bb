/-
  What field.Sign and field.Low do, by widths.
-/
import Derived.Test.YtbenfglhomiocaaFldH
namespace Go.Proofs.Ytbenfglhomiocaa.Fld
open Go.Sim
set_option maxRecDepth 100000

theorem sign49 (n : Int) (hn : In n) : Ret Try.prog 37 [.int .i64 n, .int .i64 (49 : Nat)] (.int .i64 (sgnF n 49)) := by
  have h := retV (val := fun _ => n) (F := []) holds_nil tabNil rfl rfl (f := 37) (args := [.sx .i64 (.a 0), .v (.int .i64 (.ofNat 49))]) (v := .sx .i64 (.shr (.wrap .i64 (.wrap .u64 (.shl (.wrap .u64 (.a 0)) 15))) 15)) (by kernel_rfl) (by kernel_rfl) (by kernel_rfl)
  simp only [concs, conc] at h
  have e : (SX.eval (fun _ => n) (.shr (.wrap .i64 (.wrap .u64 (.shl (.wrap .u64 (.a 0)) 15))) 15)) = sgnF n 49 := by
    obtain ⟨h1, h2⟩ := hn
    simp only [SX.eval, sgnF, wrapU, wrapI, fdivP]
    omega
  rw [← e]
  exact h

theorem low49 (n : Int) (hn : In n) : Ret Try.prog 69 [.int .i64 n, .int .i64 (49 : Nat)] (.int .i64 (lowF n 49)) := by
  have h := retV (val := fun _ => n) (F := []) holds_nil tabNil rfl rfl (f := 69) (args := [.sx .i64 (.a 0), .v (.int .i64 (.ofNat 49))]) (v := .sx .i64 (.wrap .i64 (.shr (.wrap .u64 (.shl (.wrap .u64 (.a 0)) 15)) 15))) (by kernel_rfl) (by kernel_rfl) (by kernel_rfl)
  simp only [concs, conc] at h
  have e : (SX.eval (fun _ => n) (.wrap .i64 (.shr (.wrap .u64 (.shl (.wrap .u64 (.a 0)) 15)) 15))) = lowF n 49 := by
    obtain ⟨h1, h2⟩ := hn
    simp only [SX.eval, lowF, wrapU, wrapI, fdivP]
    omega
  rw [← e]
  exact h

theorem sign50 (n : Int) (hn : In n) : Ret Try.prog 37 [.int .i64 n, .int .i64 (50 : Nat)] (.int .i64 (sgnF n 50)) := by
  have h := retV (val := fun _ => n) (F := []) holds_nil tabNil rfl rfl (f := 37) (args := [.sx .i64 (.a 0), .v (.int .i64 (.ofNat 50))]) (v := .sx .i64 (.shr (.wrap .i64 (.wrap .u64 (.shl (.wrap .u64 (.a 0)) 14))) 14)) (by kernel_rfl) (by kernel_rfl) (by kernel_rfl)
  simp only [concs, conc] at h
  have e : (SX.eval (fun _ => n) (.shr (.wrap .i64 (.wrap .u64 (.shl (.wrap .u64 (.a 0)) 14))) 14)) = sgnF n 50 := by
    obtain ⟨h1, h2⟩ := hn
    simp only [SX.eval, sgnF, wrapU, wrapI, fdivP]
    omega
  rw [← e]
  exact h

theorem low50 (n : Int) (hn : In n) : Ret Try.prog 69 [.int .i64 n, .int .i64 (50 : Nat)] (.int .i64 (lowF n 50)) := by
  have h := retV (val := fun _ => n) (F := []) holds_nil tabNil rfl rfl (f := 69) (args := [.sx .i64 (.a 0), .v (.int .i64 (.ofNat 50))]) (v := .sx .i64 (.wrap .i64 (.shr (.wrap .u64 (.shl (.wrap .u64 (.a 0)) 14)) 14))) (by kernel_rfl) (by kernel_rfl) (by kernel_rfl)
  simp only [concs, conc] at h
  have e : (SX.eval (fun _ => n) (.wrap .i64 (.shr (.wrap .u64 (.shl (.wrap .u64 (.a 0)) 14)) 14))) = lowF n 50 := by
    obtain ⟨h1, h2⟩ := hn
    simp only [SX.eval, lowF, wrapU, wrapI, fdivP]
    omega
  rw [← e]
  exact h

theorem sign51 (n : Int) (hn : In n) : Ret Try.prog 37 [.int .i64 n, .int .i64 (51 : Nat)] (.int .i64 (sgnF n 51)) := by
  have h := retV (val := fun _ => n) (F := []) holds_nil tabNil rfl rfl (f := 37) (args := [.sx .i64 (.a 0), .v (.int .i64 (.ofNat 51))]) (v := .sx .i64 (.shr (.wrap .i64 (.wrap .u64 (.shl (.wrap .u64 (.a 0)) 13))) 13)) (by kernel_rfl) (by kernel_rfl) (by kernel_rfl)
  simp only [concs, conc] at h
  have e : (SX.eval (fun _ => n) (.shr (.wrap .i64 (.wrap .u64 (.shl (.wrap .u64 (.a 0)) 13))) 13)) = sgnF n 51 := by
    obtain ⟨h1, h2⟩ := hn
    simp only [SX.eval, sgnF, wrapU, wrapI, fdivP]
    omega
  rw [← e]
  exact h

theorem low51 (n : Int) (hn : In n) : Ret Try.prog 69 [.int .i64 n, .int .i64 (51 : Nat)] (.int .i64 (lowF n 51)) := by
  have h := retV (val := fun _ => n) (F := []) holds_nil tabNil rfl rfl (f := 69) (args := [.sx .i64 (.a 0), .v (.int .i64 (.ofNat 51))]) (v := .sx .i64 (.wrap .i64 (.shr (.wrap .u64 (.shl (.wrap .u64 (.a 0)) 13)) 13))) (by kernel_rfl) (by kernel_rfl) (by kernel_rfl)
  simp only [concs, conc] at h
  have e : (SX.eval (fun _ => n) (.wrap .i64 (.shr (.wrap .u64 (.shl (.wrap .u64 (.a 0)) 13)) 13))) = lowF n 51 := by
    obtain ⟨h1, h2⟩ := hn
    simp only [SX.eval, lowF, wrapU, wrapI, fdivP]
    omega
  rw [← e]
  exact h

theorem sign52 (n : Int) (hn : In n) : Ret Try.prog 37 [.int .i64 n, .int .i64 (52 : Nat)] (.int .i64 (sgnF n 52)) := by
  have h := retV (val := fun _ => n) (F := []) holds_nil tabNil rfl rfl (f := 37) (args := [.sx .i64 (.a 0), .v (.int .i64 (.ofNat 52))]) (v := .sx .i64 (.shr (.wrap .i64 (.wrap .u64 (.shl (.wrap .u64 (.a 0)) 12))) 12)) (by kernel_rfl) (by kernel_rfl) (by kernel_rfl)
  simp only [concs, conc] at h
  have e : (SX.eval (fun _ => n) (.shr (.wrap .i64 (.wrap .u64 (.shl (.wrap .u64 (.a 0)) 12))) 12)) = sgnF n 52 := by
    obtain ⟨h1, h2⟩ := hn
    simp only [SX.eval, sgnF, wrapU, wrapI, fdivP]
    omega
  rw [← e]
  exact h

theorem low52 (n : Int) (hn : In n) : Ret Try.prog 69 [.int .i64 n, .int .i64 (52 : Nat)] (.int .i64 (lowF n 52)) := by
  have h := retV (val := fun _ => n) (F := []) holds_nil tabNil rfl rfl (f := 69) (args := [.sx .i64 (.a 0), .v (.int .i64 (.ofNat 52))]) (v := .sx .i64 (.wrap .i64 (.shr (.wrap .u64 (.shl (.wrap .u64 (.a 0)) 12)) 12))) (by kernel_rfl) (by kernel_rfl) (by kernel_rfl)
  simp only [concs, conc] at h
  have e : (SX.eval (fun _ => n) (.wrap .i64 (.shr (.wrap .u64 (.shl (.wrap .u64 (.a 0)) 12)) 12))) = lowF n 52 := by
    obtain ⟨h1, h2⟩ := hn
    simp only [SX.eval, lowF, wrapU, wrapI, fdivP]
    omega
  rw [← e]
  exact h

theorem sign53 (n : Int) (hn : In n) : Ret Try.prog 37 [.int .i64 n, .int .i64 (53 : Nat)] (.int .i64 (sgnF n 53)) := by
  have h := retV (val := fun _ => n) (F := []) holds_nil tabNil rfl rfl (f := 37) (args := [.sx .i64 (.a 0), .v (.int .i64 (.ofNat 53))]) (v := .sx .i64 (.shr (.wrap .i64 (.wrap .u64 (.shl (.wrap .u64 (.a 0)) 11))) 11)) (by kernel_rfl) (by kernel_rfl) (by kernel_rfl)
  simp only [concs, conc] at h
  have e : (SX.eval (fun _ => n) (.shr (.wrap .i64 (.wrap .u64 (.shl (.wrap .u64 (.a 0)) 11))) 11)) = sgnF n 53 := by
    obtain ⟨h1, h2⟩ := hn
    simp only [SX.eval, sgnF, wrapU, wrapI, fdivP]
    omega
  rw [← e]
  exact h

theorem low53 (n : Int) (hn : In n) : Ret Try.prog 69 [.int .i64 n, .int .i64 (53 : Nat)] (.int .i64 (lowF n 53)) := by
  have h := retV (val := fun _ => n) (F := []) holds_nil tabNil rfl rfl (f := 69) (args := [.sx .i64 (.a 0), .v (.int .i64 (.ofNat 53))]) (v := .sx .i64 (.wrap .i64 (.shr (.wrap .u64 (.shl (.wrap .u64 (.a 0)) 11)) 11))) (by kernel_rfl) (by kernel_rfl) (by kernel_rfl)
  simp only [concs, conc] at h
  have e : (SX.eval (fun _ => n) (.wrap .i64 (.shr (.wrap .u64 (.shl (.wrap .u64 (.a 0)) 11)) 11))) = lowF n 53 := by
    obtain ⟨h1, h2⟩ := hn
    simp only [SX.eval, lowF, wrapU, wrapI, fdivP]
    omega
  rw [← e]
  exact h

theorem sign54 (n : Int) (hn : In n) : Ret Try.prog 37 [.int .i64 n, .int .i64 (54 : Nat)] (.int .i64 (sgnF n 54)) := by
  have h := retV (val := fun _ => n) (F := []) holds_nil tabNil rfl rfl (f := 37) (args := [.sx .i64 (.a 0), .v (.int .i64 (.ofNat 54))]) (v := .sx .i64 (.shr (.wrap .i64 (.wrap .u64 (.shl (.wrap .u64 (.a 0)) 10))) 10)) (by kernel_rfl) (by kernel_rfl) (by kernel_rfl)
  simp only [concs, conc] at h
  have e : (SX.eval (fun _ => n) (.shr (.wrap .i64 (.wrap .u64 (.shl (.wrap .u64 (.a 0)) 10))) 10)) = sgnF n 54 := by
    obtain ⟨h1, h2⟩ := hn
    simp only [SX.eval, sgnF, wrapU, wrapI, fdivP]
    omega
  rw [← e]
  exact h

theorem low54 (n : Int) (hn : In n) : Ret Try.prog 69 [.int .i64 n, .int .i64 (54 : Nat)] (.int .i64 (lowF n 54)) := by
  have h := retV (val := fun _ => n) (F := []) holds_nil tabNil rfl rfl (f := 69) (args := [.sx .i64 (.a 0), .v (.int .i64 (.ofNat 54))]) (v := .sx .i64 (.wrap .i64 (.shr (.wrap .u64 (.shl (.wrap .u64 (.a 0)) 10)) 10))) (by kernel_rfl) (by kernel_rfl) (by kernel_rfl)
  simp only [concs, conc] at h
  have e : (SX.eval (fun _ => n) (.wrap .i64 (.shr (.wrap .u64 (.shl (.wrap .u64 (.a 0)) 10)) 10))) = lowF n 54 := by
    obtain ⟨h1, h2⟩ := hn
    simp only [SX.eval, lowF, wrapU, wrapI, fdivP]
    omega
  rw [← e]
  exact h

theorem sign55 (n : Int) (hn : In n) : Ret Try.prog 37 [.int .i64 n, .int .i64 (55 : Nat)] (.int .i64 (sgnF n 55)) := by
  have h := retV (val := fun _ => n) (F := []) holds_nil tabNil rfl rfl (f := 37) (args := [.sx .i64 (.a 0), .v (.int .i64 (.ofNat 55))]) (v := .sx .i64 (.shr (.wrap .i64 (.wrap .u64 (.shl (.wrap .u64 (.a 0)) 9))) 9)) (by kernel_rfl) (by kernel_rfl) (by kernel_rfl)
  simp only [concs, conc] at h
  have e : (SX.eval (fun _ => n) (.shr (.wrap .i64 (.wrap .u64 (.shl (.wrap .u64 (.a 0)) 9))) 9)) = sgnF n 55 := by
    obtain ⟨h1, h2⟩ := hn
    simp only [SX.eval, sgnF, wrapU, wrapI, fdivP]
    omega
  rw [← e]
  exact h

theorem low55 (n : Int) (hn : In n) : Ret Try.prog 69 [.int .i64 n, .int .i64 (55 : Nat)] (.int .i64 (lowF n 55)) := by
  have h := retV (val := fun _ => n) (F := []) holds_nil tabNil rfl rfl (f := 69) (args := [.sx .i64 (.a 0), .v (.int .i64 (.ofNat 55))]) (v := .sx .i64 (.wrap .i64 (.shr (.wrap .u64 (.shl (.wrap .u64 (.a 0)) 9)) 9))) (by kernel_rfl) (by kernel_rfl) (by kernel_rfl)
  simp only [concs, conc] at h
  have e : (SX.eval (fun _ => n) (.wrap .i64 (.shr (.wrap .u64 (.shl (.wrap .u64 (.a 0)) 9)) 9))) = lowF n 55 := by
    obtain ⟨h1, h2⟩ := hn
    simp only [SX.eval, lowF, wrapU, wrapI, fdivP]
    omega
  rw [← e]
  exact h

theorem sign56 (n : Int) (hn : In n) : Ret Try.prog 37 [.int .i64 n, .int .i64 (56 : Nat)] (.int .i64 (sgnF n 56)) := by
  have h := retV (val := fun _ => n) (F := []) holds_nil tabNil rfl rfl (f := 37) (args := [.sx .i64 (.a 0), .v (.int .i64 (.ofNat 56))]) (v := .sx .i64 (.shr (.wrap .i64 (.wrap .u64 (.shl (.wrap .u64 (.a 0)) 8))) 8)) (by kernel_rfl) (by kernel_rfl) (by kernel_rfl)
  simp only [concs, conc] at h
  have e : (SX.eval (fun _ => n) (.shr (.wrap .i64 (.wrap .u64 (.shl (.wrap .u64 (.a 0)) 8))) 8)) = sgnF n 56 := by
    obtain ⟨h1, h2⟩ := hn
    simp only [SX.eval, sgnF, wrapU, wrapI, fdivP]
    omega
  rw [← e]
  exact h

theorem low56 (n : Int) (hn : In n) : Ret Try.prog 69 [.int .i64 n, .int .i64 (56 : Nat)] (.int .i64 (lowF n 56)) := by
  have h := retV (val := fun _ => n) (F := []) holds_nil tabNil rfl rfl (f := 69) (args := [.sx .i64 (.a 0), .v (.int .i64 (.ofNat 56))]) (v := .sx .i64 (.wrap .i64 (.shr (.wrap .u64 (.shl (.wrap .u64 (.a 0)) 8)) 8))) (by kernel_rfl) (by kernel_rfl) (by kernel_rfl)
  simp only [concs, conc] at h
  have e : (SX.eval (fun _ => n) (.wrap .i64 (.shr (.wrap .u64 (.shl (.wrap .u64 (.a 0)) 8)) 8))) = lowF n 56 := by
    obtain ⟨h1, h2⟩ := hn
    simp only [SX.eval, lowF, wrapU, wrapI, fdivP]
    omega
  rw [← e]
  exact h

theorem sign57 (n : Int) (hn : In n) : Ret Try.prog 37 [.int .i64 n, .int .i64 (57 : Nat)] (.int .i64 (sgnF n 57)) := by
  have h := retV (val := fun _ => n) (F := []) holds_nil tabNil rfl rfl (f := 37) (args := [.sx .i64 (.a 0), .v (.int .i64 (.ofNat 57))]) (v := .sx .i64 (.shr (.wrap .i64 (.wrap .u64 (.shl (.wrap .u64 (.a 0)) 7))) 7)) (by kernel_rfl) (by kernel_rfl) (by kernel_rfl)
  simp only [concs, conc] at h
  have e : (SX.eval (fun _ => n) (.shr (.wrap .i64 (.wrap .u64 (.shl (.wrap .u64 (.a 0)) 7))) 7)) = sgnF n 57 := by
    obtain ⟨h1, h2⟩ := hn
    simp only [SX.eval, sgnF, wrapU, wrapI, fdivP]
    omega
  rw [← e]
  exact h

theorem low57 (n : Int) (hn : In n) : Ret Try.prog 69 [.int .i64 n, .int .i64 (57 : Nat)] (.int .i64 (lowF n 57)) := by
  have h := retV (val := fun _ => n) (F := []) holds_nil tabNil rfl rfl (f := 69) (args := [.sx .i64 (.a 0), .v (.int .i64 (.ofNat 57))]) (v := .sx .i64 (.wrap .i64 (.shr (.wrap .u64 (.shl (.wrap .u64 (.a 0)) 7)) 7))) (by kernel_rfl) (by kernel_rfl) (by kernel_rfl)
  simp only [concs, conc] at h
  have e : (SX.eval (fun _ => n) (.wrap .i64 (.shr (.wrap .u64 (.shl (.wrap .u64 (.a 0)) 7)) 7))) = lowF n 57 := by
    obtain ⟨h1, h2⟩ := hn
    simp only [SX.eval, lowF, wrapU, wrapI, fdivP]
    omega
  rw [← e]
  exact h

theorem sign58 (n : Int) (hn : In n) : Ret Try.prog 37 [.int .i64 n, .int .i64 (58 : Nat)] (.int .i64 (sgnF n 58)) := by
  have h := retV (val := fun _ => n) (F := []) holds_nil tabNil rfl rfl (f := 37) (args := [.sx .i64 (.a 0), .v (.int .i64 (.ofNat 58))]) (v := .sx .i64 (.shr (.wrap .i64 (.wrap .u64 (.shl (.wrap .u64 (.a 0)) 6))) 6)) (by kernel_rfl) (by kernel_rfl) (by kernel_rfl)
  simp only [concs, conc] at h
  have e : (SX.eval (fun _ => n) (.shr (.wrap .i64 (.wrap .u64 (.shl (.wrap .u64 (.a 0)) 6))) 6)) = sgnF n 58 := by
    obtain ⟨h1, h2⟩ := hn
    simp only [SX.eval, sgnF, wrapU, wrapI, fdivP]
    omega
  rw [← e]
  exact h

theorem low58 (n : Int) (hn : In n) : Ret Try.prog 69 [.int .i64 n, .int .i64 (58 : Nat)] (.int .i64 (lowF n 58)) := by
  have h := retV (val := fun _ => n) (F := []) holds_nil tabNil rfl rfl (f := 69) (args := [.sx .i64 (.a 0), .v (.int .i64 (.ofNat 58))]) (v := .sx .i64 (.wrap .i64 (.shr (.wrap .u64 (.shl (.wrap .u64 (.a 0)) 6)) 6))) (by kernel_rfl) (by kernel_rfl) (by kernel_rfl)
  simp only [concs, conc] at h
  have e : (SX.eval (fun _ => n) (.wrap .i64 (.shr (.wrap .u64 (.shl (.wrap .u64 (.a 0)) 6)) 6))) = lowF n 58 := by
    obtain ⟨h1, h2⟩ := hn
    simp only [SX.eval, lowF, wrapU, wrapI, fdivP]
    omega
  rw [← e]
  exact h

theorem sign59 (n : Int) (hn : In n) : Ret Try.prog 37 [.int .i64 n, .int .i64 (59 : Nat)] (.int .i64 (sgnF n 59)) := by
  have h := retV (val := fun _ => n) (F := []) holds_nil tabNil rfl rfl (f := 37) (args := [.sx .i64 (.a 0), .v (.int .i64 (.ofNat 59))]) (v := .sx .i64 (.shr (.wrap .i64 (.wrap .u64 (.shl (.wrap .u64 (.a 0)) 5))) 5)) (by kernel_rfl) (by kernel_rfl) (by kernel_rfl)
  simp only [concs, conc] at h
  have e : (SX.eval (fun _ => n) (.shr (.wrap .i64 (.wrap .u64 (.shl (.wrap .u64 (.a 0)) 5))) 5)) = sgnF n 59 := by
    obtain ⟨h1, h2⟩ := hn
    simp only [SX.eval, sgnF, wrapU, wrapI, fdivP]
    omega
  rw [← e]
  exact h

theorem low59 (n : Int) (hn : In n) : Ret Try.prog 69 [.int .i64 n, .int .i64 (59 : Nat)] (.int .i64 (lowF n 59)) := by
  have h := retV (val := fun _ => n) (F := []) holds_nil tabNil rfl rfl (f := 69) (args := [.sx .i64 (.a 0), .v (.int .i64 (.ofNat 59))]) (v := .sx .i64 (.wrap .i64 (.shr (.wrap .u64 (.shl (.wrap .u64 (.a 0)) 5)) 5))) (by kernel_rfl) (by kernel_rfl) (by kernel_rfl)
  simp only [concs, conc] at h
  have e : (SX.eval (fun _ => n) (.wrap .i64 (.shr (.wrap .u64 (.shl (.wrap .u64 (.a 0)) 5)) 5))) = lowF n 59 := by
    obtain ⟨h1, h2⟩ := hn
    simp only [SX.eval, lowF, wrapU, wrapI, fdivP]
    omega
  rw [← e]
  exact h

theorem sign60 (n : Int) (hn : In n) : Ret Try.prog 37 [.int .i64 n, .int .i64 (60 : Nat)] (.int .i64 (sgnF n 60)) := by
  have h := retV (val := fun _ => n) (F := []) holds_nil tabNil rfl rfl (f := 37) (args := [.sx .i64 (.a 0), .v (.int .i64 (.ofNat 60))]) (v := .sx .i64 (.shr (.wrap .i64 (.wrap .u64 (.shl (.wrap .u64 (.a 0)) 4))) 4)) (by kernel_rfl) (by kernel_rfl) (by kernel_rfl)
  simp only [concs, conc] at h
  have e : (SX.eval (fun _ => n) (.shr (.wrap .i64 (.wrap .u64 (.shl (.wrap .u64 (.a 0)) 4))) 4)) = sgnF n 60 := by
    obtain ⟨h1, h2⟩ := hn
    simp only [SX.eval, sgnF, wrapU, wrapI, fdivP]
    omega
  rw [← e]
  exact h

theorem low60 (n : Int) (hn : In n) : Ret Try.prog 69 [.int .i64 n, .int .i64 (60 : Nat)] (.int .i64 (lowF n 60)) := by
  have h := retV (val := fun _ => n) (F := []) holds_nil tabNil rfl rfl (f := 69) (args := [.sx .i64 (.a 0), .v (.int .i64 (.ofNat 60))]) (v := .sx .i64 (.wrap .i64 (.shr (.wrap .u64 (.shl (.wrap .u64 (.a 0)) 4)) 4))) (by kernel_rfl) (by kernel_rfl) (by kernel_rfl)
  simp only [concs, conc] at h
  have e : (SX.eval (fun _ => n) (.wrap .i64 (.shr (.wrap .u64 (.shl (.wrap .u64 (.a 0)) 4)) 4))) = lowF n 60 := by
    obtain ⟨h1, h2⟩ := hn
    simp only [SX.eval, lowF, wrapU, wrapI, fdivP]
    omega
  rw [← e]
  exact h

theorem sign61 (n : Int) (hn : In n) : Ret Try.prog 37 [.int .i64 n, .int .i64 (61 : Nat)] (.int .i64 (sgnF n 61)) := by
  have h := retV (val := fun _ => n) (F := []) holds_nil tabNil rfl rfl (f := 37) (args := [.sx .i64 (.a 0), .v (.int .i64 (.ofNat 61))]) (v := .sx .i64 (.shr (.wrap .i64 (.wrap .u64 (.shl (.wrap .u64 (.a 0)) 3))) 3)) (by kernel_rfl) (by kernel_rfl) (by kernel_rfl)
  simp only [concs, conc] at h
  have e : (SX.eval (fun _ => n) (.shr (.wrap .i64 (.wrap .u64 (.shl (.wrap .u64 (.a 0)) 3))) 3)) = sgnF n 61 := by
    obtain ⟨h1, h2⟩ := hn
    simp only [SX.eval, sgnF, wrapU, wrapI, fdivP]
    omega
  rw [← e]
  exact h

theorem low61 (n : Int) (hn : In n) : Ret Try.prog 69 [.int .i64 n, .int .i64 (61 : Nat)] (.int .i64 (lowF n 61)) := by
  have h := retV (val := fun _ => n) (F := []) holds_nil tabNil rfl rfl (f := 69) (args := [.sx .i64 (.a 0), .v (.int .i64 (.ofNat 61))]) (v := .sx .i64 (.wrap .i64 (.shr (.wrap .u64 (.shl (.wrap .u64 (.a 0)) 3)) 3))) (by kernel_rfl) (by kernel_rfl) (by kernel_rfl)
  simp only [concs, conc] at h
  have e : (SX.eval (fun _ => n) (.wrap .i64 (.shr (.wrap .u64 (.shl (.wrap .u64 (.a 0)) 3)) 3))) = lowF n 61 := by
    obtain ⟨h1, h2⟩ := hn
    simp only [SX.eval, lowF, wrapU, wrapI, fdivP]
    omega
  rw [← e]
  exact h

theorem sign62 (n : Int) (hn : In n) : Ret Try.prog 37 [.int .i64 n, .int .i64 (62 : Nat)] (.int .i64 (sgnF n 62)) := by
  have h := retV (val := fun _ => n) (F := []) holds_nil tabNil rfl rfl (f := 37) (args := [.sx .i64 (.a 0), .v (.int .i64 (.ofNat 62))]) (v := .sx .i64 (.shr (.wrap .i64 (.wrap .u64 (.shl (.wrap .u64 (.a 0)) 2))) 2)) (by kernel_rfl) (by kernel_rfl) (by kernel_rfl)
  simp only [concs, conc] at h
  have e : (SX.eval (fun _ => n) (.shr (.wrap .i64 (.wrap .u64 (.shl (.wrap .u64 (.a 0)) 2))) 2)) = sgnF n 62 := by
    obtain ⟨h1, h2⟩ := hn
    simp only [SX.eval, sgnF, wrapU, wrapI, fdivP]
    omega
  rw [← e]
  exact h

theorem low62 (n : Int) (hn : In n) : Ret Try.prog 69 [.int .i64 n, .int .i64 (62 : Nat)] (.int .i64 (lowF n 62)) := by
  have h := retV (val := fun _ => n) (F := []) holds_nil tabNil rfl rfl (f := 69) (args := [.sx .i64 (.a 0), .v (.int .i64 (.ofNat 62))]) (v := .sx .i64 (.wrap .i64 (.shr (.wrap .u64 (.shl (.wrap .u64 (.a 0)) 2)) 2))) (by kernel_rfl) (by kernel_rfl) (by kernel_rfl)
  simp only [concs, conc] at h
  have e : (SX.eval (fun _ => n) (.wrap .i64 (.shr (.wrap .u64 (.shl (.wrap .u64 (.a 0)) 2)) 2))) = lowF n 62 := by
    obtain ⟨h1, h2⟩ := hn
    simp only [SX.eval, lowF, wrapU, wrapI, fdivP]
    omega
  rw [← e]
  exact h

theorem sign63 (n : Int) (hn : In n) : Ret Try.prog 37 [.int .i64 n, .int .i64 (63 : Nat)] (.int .i64 (sgnF n 63)) := by
  have h := retV (val := fun _ => n) (F := []) holds_nil tabNil rfl rfl (f := 37) (args := [.sx .i64 (.a 0), .v (.int .i64 (.ofNat 63))]) (v := .sx .i64 (.shr (.wrap .i64 (.wrap .u64 (.shl (.wrap .u64 (.a 0)) 1))) 1)) (by kernel_rfl) (by kernel_rfl) (by kernel_rfl)
  simp only [concs, conc] at h
  have e : (SX.eval (fun _ => n) (.shr (.wrap .i64 (.wrap .u64 (.shl (.wrap .u64 (.a 0)) 1))) 1)) = sgnF n 63 := by
    obtain ⟨h1, h2⟩ := hn
    simp only [SX.eval, sgnF, wrapU, wrapI, fdivP]
    omega
  rw [← e]
  exact h

theorem low63 (n : Int) (hn : In n) : Ret Try.prog 69 [.int .i64 n, .int .i64 (63 : Nat)] (.int .i64 (lowF n 63)) := by
  have h := retV (val := fun _ => n) (F := []) holds_nil tabNil rfl rfl (f := 69) (args := [.sx .i64 (.a 0), .v (.int .i64 (.ofNat 63))]) (v := .sx .i64 (.wrap .i64 (.shr (.wrap .u64 (.shl (.wrap .u64 (.a 0)) 1)) 1))) (by kernel_rfl) (by kernel_rfl) (by kernel_rfl)
  simp only [concs, conc] at h
  have e : (SX.eval (fun _ => n) (.wrap .i64 (.shr (.wrap .u64 (.shl (.wrap .u64 (.a 0)) 1)) 1))) = lowF n 63 := by
    obtain ⟨h1, h2⟩ := hn
    simp only [SX.eval, lowF, wrapU, wrapI, fdivP]
    omega
  rw [← e]
  exact h

theorem sign64 (n : Int) (hn : In n) : Ret Try.prog 37 [.int .i64 n, .int .i64 (64 : Nat)] (.int .i64 (sgnF n 64)) := by
  have h := retV (val := fun _ => n) (F := []) holds_nil tabNil rfl rfl (f := 37) (args := [.sx .i64 (.a 0), .v (.int .i64 (.ofNat 64))]) (v := .sx .i64 (.shr (.wrap .i64 (.wrap .u64 (.shl (.wrap .u64 (.a 0)) 0))) 0)) (by kernel_rfl) (by kernel_rfl) (by kernel_rfl)
  simp only [concs, conc] at h
  have e : (SX.eval (fun _ => n) (.shr (.wrap .i64 (.wrap .u64 (.shl (.wrap .u64 (.a 0)) 0))) 0)) = sgnF n 64 := by
    obtain ⟨h1, h2⟩ := hn
    simp only [SX.eval, sgnF, wrapU, wrapI, fdivP]
    omega
  rw [← e]
  exact h

theorem low64 (n : Int) (hn : In n) : Ret Try.prog 69 [.int .i64 n, .int .i64 (64 : Nat)] (.int .i64 (lowF n 64)) := by
  have h := retV (val := fun _ => n) (F := []) holds_nil tabNil rfl rfl (f := 69) (args := [.sx .i64 (.a 0), .v (.int .i64 (.ofNat 64))]) (v := .sx .i64 (.wrap .i64 (.shr (.wrap .u64 (.shl (.wrap .u64 (.a 0)) 0)) 0))) (by kernel_rfl) (by kernel_rfl) (by kernel_rfl)
  simp only [concs, conc] at h
  have e : (SX.eval (fun _ => n) (.wrap .i64 (.shr (.wrap .u64 (.shl (.wrap .u64 (.a 0)) 0)) 0))) = lowF n 64 := by
    obtain ⟨h1, h2⟩ := hn
    simp only [SX.eval, lowF, wrapU, wrapI, if_true, Int.pow_zero, Int.mul_one, Int.fdiv_one]
    omega
  rw [← e]
  exact h

end Go.Proofs.Ytbenfglhomiocaa.Fld
