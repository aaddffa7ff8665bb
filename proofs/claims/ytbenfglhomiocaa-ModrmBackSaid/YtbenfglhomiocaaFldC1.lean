/-
  What field.Sign and field.Low do, by widths.
-/
import Derived.Test.YtbenfglhomiocaaFldH
namespace Go.Proofs.Ytbenfglhomiocaa.Fld
open Go.Sim
set_option maxRecDepth 100000

theorem sign1 (n : Int) (hn : In n) : Ret Try.prog 37 [.int .i64 n, .int .i64 (1 : Nat)] (.int .i64 (sgnF n 1)) := by
  have h := retV (val := fun _ => n) (F := []) holds_nil tabNil rfl rfl (f := 37) (args := [.sx .i64 (.a 0), .v (.int .i64 (.ofNat 1))]) (v := .sx .i64 (.shr (.wrap .i64 (.wrap .u64 (.shl (.wrap .u64 (.a 0)) 63))) 63)) (by kernel_rfl) (by kernel_rfl) (by kernel_rfl)
  simp only [concs, conc] at h
  have e : (SX.eval (fun _ => n) (.shr (.wrap .i64 (.wrap .u64 (.shl (.wrap .u64 (.a 0)) 63))) 63)) = sgnF n 1 := by
    obtain ⟨h1, h2⟩ := hn
    simp only [SX.eval, sgnF, wrapU, wrapI, fdivP]
    omega
  rw [← e]
  exact h

theorem low1 (n : Int) (hn : In n) : Ret Try.prog 69 [.int .i64 n, .int .i64 (1 : Nat)] (.int .i64 (lowF n 1)) := by
  have h := retV (val := fun _ => n) (F := []) holds_nil tabNil rfl rfl (f := 69) (args := [.sx .i64 (.a 0), .v (.int .i64 (.ofNat 1))]) (v := .sx .i64 (.wrap .i64 (.shr (.wrap .u64 (.shl (.wrap .u64 (.a 0)) 63)) 63))) (by kernel_rfl) (by kernel_rfl) (by kernel_rfl)
  simp only [concs, conc] at h
  have e : (SX.eval (fun _ => n) (.wrap .i64 (.shr (.wrap .u64 (.shl (.wrap .u64 (.a 0)) 63)) 63))) = lowF n 1 := by
    obtain ⟨h1, h2⟩ := hn
    simp only [SX.eval, lowF, wrapU, wrapI, fdivP]
    omega
  rw [← e]
  exact h

theorem sign2 (n : Int) (hn : In n) : Ret Try.prog 37 [.int .i64 n, .int .i64 (2 : Nat)] (.int .i64 (sgnF n 2)) := by
  have h := retV (val := fun _ => n) (F := []) holds_nil tabNil rfl rfl (f := 37) (args := [.sx .i64 (.a 0), .v (.int .i64 (.ofNat 2))]) (v := .sx .i64 (.shr (.wrap .i64 (.wrap .u64 (.shl (.wrap .u64 (.a 0)) 62))) 62)) (by kernel_rfl) (by kernel_rfl) (by kernel_rfl)
  simp only [concs, conc] at h
  have e : (SX.eval (fun _ => n) (.shr (.wrap .i64 (.wrap .u64 (.shl (.wrap .u64 (.a 0)) 62))) 62)) = sgnF n 2 := by
    obtain ⟨h1, h2⟩ := hn
    simp only [SX.eval, sgnF, wrapU, wrapI, fdivP]
    omega
  rw [← e]
  exact h

theorem low2 (n : Int) (hn : In n) : Ret Try.prog 69 [.int .i64 n, .int .i64 (2 : Nat)] (.int .i64 (lowF n 2)) := by
  have h := retV (val := fun _ => n) (F := []) holds_nil tabNil rfl rfl (f := 69) (args := [.sx .i64 (.a 0), .v (.int .i64 (.ofNat 2))]) (v := .sx .i64 (.wrap .i64 (.shr (.wrap .u64 (.shl (.wrap .u64 (.a 0)) 62)) 62))) (by kernel_rfl) (by kernel_rfl) (by kernel_rfl)
  simp only [concs, conc] at h
  have e : (SX.eval (fun _ => n) (.wrap .i64 (.shr (.wrap .u64 (.shl (.wrap .u64 (.a 0)) 62)) 62))) = lowF n 2 := by
    obtain ⟨h1, h2⟩ := hn
    simp only [SX.eval, lowF, wrapU, wrapI, fdivP]
    omega
  rw [← e]
  exact h

theorem sign3 (n : Int) (hn : In n) : Ret Try.prog 37 [.int .i64 n, .int .i64 (3 : Nat)] (.int .i64 (sgnF n 3)) := by
  have h := retV (val := fun _ => n) (F := []) holds_nil tabNil rfl rfl (f := 37) (args := [.sx .i64 (.a 0), .v (.int .i64 (.ofNat 3))]) (v := .sx .i64 (.shr (.wrap .i64 (.wrap .u64 (.shl (.wrap .u64 (.a 0)) 61))) 61)) (by kernel_rfl) (by kernel_rfl) (by kernel_rfl)
  simp only [concs, conc] at h
  have e : (SX.eval (fun _ => n) (.shr (.wrap .i64 (.wrap .u64 (.shl (.wrap .u64 (.a 0)) 61))) 61)) = sgnF n 3 := by
    obtain ⟨h1, h2⟩ := hn
    simp only [SX.eval, sgnF, wrapU, wrapI, fdivP]
    omega
  rw [← e]
  exact h

theorem low3 (n : Int) (hn : In n) : Ret Try.prog 69 [.int .i64 n, .int .i64 (3 : Nat)] (.int .i64 (lowF n 3)) := by
  have h := retV (val := fun _ => n) (F := []) holds_nil tabNil rfl rfl (f := 69) (args := [.sx .i64 (.a 0), .v (.int .i64 (.ofNat 3))]) (v := .sx .i64 (.wrap .i64 (.shr (.wrap .u64 (.shl (.wrap .u64 (.a 0)) 61)) 61))) (by kernel_rfl) (by kernel_rfl) (by kernel_rfl)
  simp only [concs, conc] at h
  have e : (SX.eval (fun _ => n) (.wrap .i64 (.shr (.wrap .u64 (.shl (.wrap .u64 (.a 0)) 61)) 61))) = lowF n 3 := by
    obtain ⟨h1, h2⟩ := hn
    simp only [SX.eval, lowF, wrapU, wrapI, fdivP]
    omega
  rw [← e]
  exact h

theorem sign4 (n : Int) (hn : In n) : Ret Try.prog 37 [.int .i64 n, .int .i64 (4 : Nat)] (.int .i64 (sgnF n 4)) := by
  have h := retV (val := fun _ => n) (F := []) holds_nil tabNil rfl rfl (f := 37) (args := [.sx .i64 (.a 0), .v (.int .i64 (.ofNat 4))]) (v := .sx .i64 (.shr (.wrap .i64 (.wrap .u64 (.shl (.wrap .u64 (.a 0)) 60))) 60)) (by kernel_rfl) (by kernel_rfl) (by kernel_rfl)
  simp only [concs, conc] at h
  have e : (SX.eval (fun _ => n) (.shr (.wrap .i64 (.wrap .u64 (.shl (.wrap .u64 (.a 0)) 60))) 60)) = sgnF n 4 := by
    obtain ⟨h1, h2⟩ := hn
    simp only [SX.eval, sgnF, wrapU, wrapI, fdivP]
    omega
  rw [← e]
  exact h

theorem low4 (n : Int) (hn : In n) : Ret Try.prog 69 [.int .i64 n, .int .i64 (4 : Nat)] (.int .i64 (lowF n 4)) := by
  have h := retV (val := fun _ => n) (F := []) holds_nil tabNil rfl rfl (f := 69) (args := [.sx .i64 (.a 0), .v (.int .i64 (.ofNat 4))]) (v := .sx .i64 (.wrap .i64 (.shr (.wrap .u64 (.shl (.wrap .u64 (.a 0)) 60)) 60))) (by kernel_rfl) (by kernel_rfl) (by kernel_rfl)
  simp only [concs, conc] at h
  have e : (SX.eval (fun _ => n) (.wrap .i64 (.shr (.wrap .u64 (.shl (.wrap .u64 (.a 0)) 60)) 60))) = lowF n 4 := by
    obtain ⟨h1, h2⟩ := hn
    simp only [SX.eval, lowF, wrapU, wrapI, fdivP]
    omega
  rw [← e]
  exact h

theorem sign5 (n : Int) (hn : In n) : Ret Try.prog 37 [.int .i64 n, .int .i64 (5 : Nat)] (.int .i64 (sgnF n 5)) := by
  have h := retV (val := fun _ => n) (F := []) holds_nil tabNil rfl rfl (f := 37) (args := [.sx .i64 (.a 0), .v (.int .i64 (.ofNat 5))]) (v := .sx .i64 (.shr (.wrap .i64 (.wrap .u64 (.shl (.wrap .u64 (.a 0)) 59))) 59)) (by kernel_rfl) (by kernel_rfl) (by kernel_rfl)
  simp only [concs, conc] at h
  have e : (SX.eval (fun _ => n) (.shr (.wrap .i64 (.wrap .u64 (.shl (.wrap .u64 (.a 0)) 59))) 59)) = sgnF n 5 := by
    obtain ⟨h1, h2⟩ := hn
    simp only [SX.eval, sgnF, wrapU, wrapI, fdivP]
    omega
  rw [← e]
  exact h

theorem low5 (n : Int) (hn : In n) : Ret Try.prog 69 [.int .i64 n, .int .i64 (5 : Nat)] (.int .i64 (lowF n 5)) := by
  have h := retV (val := fun _ => n) (F := []) holds_nil tabNil rfl rfl (f := 69) (args := [.sx .i64 (.a 0), .v (.int .i64 (.ofNat 5))]) (v := .sx .i64 (.wrap .i64 (.shr (.wrap .u64 (.shl (.wrap .u64 (.a 0)) 59)) 59))) (by kernel_rfl) (by kernel_rfl) (by kernel_rfl)
  simp only [concs, conc] at h
  have e : (SX.eval (fun _ => n) (.wrap .i64 (.shr (.wrap .u64 (.shl (.wrap .u64 (.a 0)) 59)) 59))) = lowF n 5 := by
    obtain ⟨h1, h2⟩ := hn
    simp only [SX.eval, lowF, wrapU, wrapI, fdivP]
    omega
  rw [← e]
  exact h

theorem sign6 (n : Int) (hn : In n) : Ret Try.prog 37 [.int .i64 n, .int .i64 (6 : Nat)] (.int .i64 (sgnF n 6)) := by
  have h := retV (val := fun _ => n) (F := []) holds_nil tabNil rfl rfl (f := 37) (args := [.sx .i64 (.a 0), .v (.int .i64 (.ofNat 6))]) (v := .sx .i64 (.shr (.wrap .i64 (.wrap .u64 (.shl (.wrap .u64 (.a 0)) 58))) 58)) (by kernel_rfl) (by kernel_rfl) (by kernel_rfl)
  simp only [concs, conc] at h
  have e : (SX.eval (fun _ => n) (.shr (.wrap .i64 (.wrap .u64 (.shl (.wrap .u64 (.a 0)) 58))) 58)) = sgnF n 6 := by
    obtain ⟨h1, h2⟩ := hn
    simp only [SX.eval, sgnF, wrapU, wrapI, fdivP]
    omega
  rw [← e]
  exact h

theorem low6 (n : Int) (hn : In n) : Ret Try.prog 69 [.int .i64 n, .int .i64 (6 : Nat)] (.int .i64 (lowF n 6)) := by
  have h := retV (val := fun _ => n) (F := []) holds_nil tabNil rfl rfl (f := 69) (args := [.sx .i64 (.a 0), .v (.int .i64 (.ofNat 6))]) (v := .sx .i64 (.wrap .i64 (.shr (.wrap .u64 (.shl (.wrap .u64 (.a 0)) 58)) 58))) (by kernel_rfl) (by kernel_rfl) (by kernel_rfl)
  simp only [concs, conc] at h
  have e : (SX.eval (fun _ => n) (.wrap .i64 (.shr (.wrap .u64 (.shl (.wrap .u64 (.a 0)) 58)) 58))) = lowF n 6 := by
    obtain ⟨h1, h2⟩ := hn
    simp only [SX.eval, lowF, wrapU, wrapI, fdivP]
    omega
  rw [← e]
  exact h

theorem sign7 (n : Int) (hn : In n) : Ret Try.prog 37 [.int .i64 n, .int .i64 (7 : Nat)] (.int .i64 (sgnF n 7)) := by
  have h := retV (val := fun _ => n) (F := []) holds_nil tabNil rfl rfl (f := 37) (args := [.sx .i64 (.a 0), .v (.int .i64 (.ofNat 7))]) (v := .sx .i64 (.shr (.wrap .i64 (.wrap .u64 (.shl (.wrap .u64 (.a 0)) 57))) 57)) (by kernel_rfl) (by kernel_rfl) (by kernel_rfl)
  simp only [concs, conc] at h
  have e : (SX.eval (fun _ => n) (.shr (.wrap .i64 (.wrap .u64 (.shl (.wrap .u64 (.a 0)) 57))) 57)) = sgnF n 7 := by
    obtain ⟨h1, h2⟩ := hn
    simp only [SX.eval, sgnF, wrapU, wrapI, fdivP]
    omega
  rw [← e]
  exact h

theorem low7 (n : Int) (hn : In n) : Ret Try.prog 69 [.int .i64 n, .int .i64 (7 : Nat)] (.int .i64 (lowF n 7)) := by
  have h := retV (val := fun _ => n) (F := []) holds_nil tabNil rfl rfl (f := 69) (args := [.sx .i64 (.a 0), .v (.int .i64 (.ofNat 7))]) (v := .sx .i64 (.wrap .i64 (.shr (.wrap .u64 (.shl (.wrap .u64 (.a 0)) 57)) 57))) (by kernel_rfl) (by kernel_rfl) (by kernel_rfl)
  simp only [concs, conc] at h
  have e : (SX.eval (fun _ => n) (.wrap .i64 (.shr (.wrap .u64 (.shl (.wrap .u64 (.a 0)) 57)) 57))) = lowF n 7 := by
    obtain ⟨h1, h2⟩ := hn
    simp only [SX.eval, lowF, wrapU, wrapI, fdivP]
    omega
  rw [← e]
  exact h

theorem sign8 (n : Int) (hn : In n) : Ret Try.prog 37 [.int .i64 n, .int .i64 (8 : Nat)] (.int .i64 (sgnF n 8)) := by
  have h := retV (val := fun _ => n) (F := []) holds_nil tabNil rfl rfl (f := 37) (args := [.sx .i64 (.a 0), .v (.int .i64 (.ofNat 8))]) (v := .sx .i64 (.shr (.wrap .i64 (.wrap .u64 (.shl (.wrap .u64 (.a 0)) 56))) 56)) (by kernel_rfl) (by kernel_rfl) (by kernel_rfl)
  simp only [concs, conc] at h
  have e : (SX.eval (fun _ => n) (.shr (.wrap .i64 (.wrap .u64 (.shl (.wrap .u64 (.a 0)) 56))) 56)) = sgnF n 8 := by
    obtain ⟨h1, h2⟩ := hn
    simp only [SX.eval, sgnF, wrapU, wrapI, fdivP]
    omega
  rw [← e]
  exact h

theorem low8 (n : Int) (hn : In n) : Ret Try.prog 69 [.int .i64 n, .int .i64 (8 : Nat)] (.int .i64 (lowF n 8)) := by
  have h := retV (val := fun _ => n) (F := []) holds_nil tabNil rfl rfl (f := 69) (args := [.sx .i64 (.a 0), .v (.int .i64 (.ofNat 8))]) (v := .sx .i64 (.wrap .i64 (.shr (.wrap .u64 (.shl (.wrap .u64 (.a 0)) 56)) 56))) (by kernel_rfl) (by kernel_rfl) (by kernel_rfl)
  simp only [concs, conc] at h
  have e : (SX.eval (fun _ => n) (.wrap .i64 (.shr (.wrap .u64 (.shl (.wrap .u64 (.a 0)) 56)) 56))) = lowF n 8 := by
    obtain ⟨h1, h2⟩ := hn
    simp only [SX.eval, lowF, wrapU, wrapI, fdivP]
    omega
  rw [← e]
  exact h

theorem sign9 (n : Int) (hn : In n) : Ret Try.prog 37 [.int .i64 n, .int .i64 (9 : Nat)] (.int .i64 (sgnF n 9)) := by
  have h := retV (val := fun _ => n) (F := []) holds_nil tabNil rfl rfl (f := 37) (args := [.sx .i64 (.a 0), .v (.int .i64 (.ofNat 9))]) (v := .sx .i64 (.shr (.wrap .i64 (.wrap .u64 (.shl (.wrap .u64 (.a 0)) 55))) 55)) (by kernel_rfl) (by kernel_rfl) (by kernel_rfl)
  simp only [concs, conc] at h
  have e : (SX.eval (fun _ => n) (.shr (.wrap .i64 (.wrap .u64 (.shl (.wrap .u64 (.a 0)) 55))) 55)) = sgnF n 9 := by
    obtain ⟨h1, h2⟩ := hn
    simp only [SX.eval, sgnF, wrapU, wrapI, fdivP]
    omega
  rw [← e]
  exact h

theorem low9 (n : Int) (hn : In n) : Ret Try.prog 69 [.int .i64 n, .int .i64 (9 : Nat)] (.int .i64 (lowF n 9)) := by
  have h := retV (val := fun _ => n) (F := []) holds_nil tabNil rfl rfl (f := 69) (args := [.sx .i64 (.a 0), .v (.int .i64 (.ofNat 9))]) (v := .sx .i64 (.wrap .i64 (.shr (.wrap .u64 (.shl (.wrap .u64 (.a 0)) 55)) 55))) (by kernel_rfl) (by kernel_rfl) (by kernel_rfl)
  simp only [concs, conc] at h
  have e : (SX.eval (fun _ => n) (.wrap .i64 (.shr (.wrap .u64 (.shl (.wrap .u64 (.a 0)) 55)) 55))) = lowF n 9 := by
    obtain ⟨h1, h2⟩ := hn
    simp only [SX.eval, lowF, wrapU, wrapI, fdivP]
    omega
  rw [← e]
  exact h

theorem sign10 (n : Int) (hn : In n) : Ret Try.prog 37 [.int .i64 n, .int .i64 (10 : Nat)] (.int .i64 (sgnF n 10)) := by
  have h := retV (val := fun _ => n) (F := []) holds_nil tabNil rfl rfl (f := 37) (args := [.sx .i64 (.a 0), .v (.int .i64 (.ofNat 10))]) (v := .sx .i64 (.shr (.wrap .i64 (.wrap .u64 (.shl (.wrap .u64 (.a 0)) 54))) 54)) (by kernel_rfl) (by kernel_rfl) (by kernel_rfl)
  simp only [concs, conc] at h
  have e : (SX.eval (fun _ => n) (.shr (.wrap .i64 (.wrap .u64 (.shl (.wrap .u64 (.a 0)) 54))) 54)) = sgnF n 10 := by
    obtain ⟨h1, h2⟩ := hn
    simp only [SX.eval, sgnF, wrapU, wrapI, fdivP]
    omega
  rw [← e]
  exact h

theorem low10 (n : Int) (hn : In n) : Ret Try.prog 69 [.int .i64 n, .int .i64 (10 : Nat)] (.int .i64 (lowF n 10)) := by
  have h := retV (val := fun _ => n) (F := []) holds_nil tabNil rfl rfl (f := 69) (args := [.sx .i64 (.a 0), .v (.int .i64 (.ofNat 10))]) (v := .sx .i64 (.wrap .i64 (.shr (.wrap .u64 (.shl (.wrap .u64 (.a 0)) 54)) 54))) (by kernel_rfl) (by kernel_rfl) (by kernel_rfl)
  simp only [concs, conc] at h
  have e : (SX.eval (fun _ => n) (.wrap .i64 (.shr (.wrap .u64 (.shl (.wrap .u64 (.a 0)) 54)) 54))) = lowF n 10 := by
    obtain ⟨h1, h2⟩ := hn
    simp only [SX.eval, lowF, wrapU, wrapI, fdivP]
    omega
  rw [← e]
  exact h

theorem sign11 (n : Int) (hn : In n) : Ret Try.prog 37 [.int .i64 n, .int .i64 (11 : Nat)] (.int .i64 (sgnF n 11)) := by
  have h := retV (val := fun _ => n) (F := []) holds_nil tabNil rfl rfl (f := 37) (args := [.sx .i64 (.a 0), .v (.int .i64 (.ofNat 11))]) (v := .sx .i64 (.shr (.wrap .i64 (.wrap .u64 (.shl (.wrap .u64 (.a 0)) 53))) 53)) (by kernel_rfl) (by kernel_rfl) (by kernel_rfl)
  simp only [concs, conc] at h
  have e : (SX.eval (fun _ => n) (.shr (.wrap .i64 (.wrap .u64 (.shl (.wrap .u64 (.a 0)) 53))) 53)) = sgnF n 11 := by
    obtain ⟨h1, h2⟩ := hn
    simp only [SX.eval, sgnF, wrapU, wrapI, fdivP]
    omega
  rw [← e]
  exact h

theorem low11 (n : Int) (hn : In n) : Ret Try.prog 69 [.int .i64 n, .int .i64 (11 : Nat)] (.int .i64 (lowF n 11)) := by
  have h := retV (val := fun _ => n) (F := []) holds_nil tabNil rfl rfl (f := 69) (args := [.sx .i64 (.a 0), .v (.int .i64 (.ofNat 11))]) (v := .sx .i64 (.wrap .i64 (.shr (.wrap .u64 (.shl (.wrap .u64 (.a 0)) 53)) 53))) (by kernel_rfl) (by kernel_rfl) (by kernel_rfl)
  simp only [concs, conc] at h
  have e : (SX.eval (fun _ => n) (.wrap .i64 (.shr (.wrap .u64 (.shl (.wrap .u64 (.a 0)) 53)) 53))) = lowF n 11 := by
    obtain ⟨h1, h2⟩ := hn
    simp only [SX.eval, lowF, wrapU, wrapI, fdivP]
    omega
  rw [← e]
  exact h

theorem sign12 (n : Int) (hn : In n) : Ret Try.prog 37 [.int .i64 n, .int .i64 (12 : Nat)] (.int .i64 (sgnF n 12)) := by
  have h := retV (val := fun _ => n) (F := []) holds_nil tabNil rfl rfl (f := 37) (args := [.sx .i64 (.a 0), .v (.int .i64 (.ofNat 12))]) (v := .sx .i64 (.shr (.wrap .i64 (.wrap .u64 (.shl (.wrap .u64 (.a 0)) 52))) 52)) (by kernel_rfl) (by kernel_rfl) (by kernel_rfl)
  simp only [concs, conc] at h
  have e : (SX.eval (fun _ => n) (.shr (.wrap .i64 (.wrap .u64 (.shl (.wrap .u64 (.a 0)) 52))) 52)) = sgnF n 12 := by
    obtain ⟨h1, h2⟩ := hn
    simp only [SX.eval, sgnF, wrapU, wrapI, fdivP]
    omega
  rw [← e]
  exact h

theorem low12 (n : Int) (hn : In n) : Ret Try.prog 69 [.int .i64 n, .int .i64 (12 : Nat)] (.int .i64 (lowF n 12)) := by
  have h := retV (val := fun _ => n) (F := []) holds_nil tabNil rfl rfl (f := 69) (args := [.sx .i64 (.a 0), .v (.int .i64 (.ofNat 12))]) (v := .sx .i64 (.wrap .i64 (.shr (.wrap .u64 (.shl (.wrap .u64 (.a 0)) 52)) 52))) (by kernel_rfl) (by kernel_rfl) (by kernel_rfl)
  simp only [concs, conc] at h
  have e : (SX.eval (fun _ => n) (.wrap .i64 (.shr (.wrap .u64 (.shl (.wrap .u64 (.a 0)) 52)) 52))) = lowF n 12 := by
    obtain ⟨h1, h2⟩ := hn
    simp only [SX.eval, lowF, wrapU, wrapI, fdivP]
    omega
  rw [← e]
  exact h

theorem sign13 (n : Int) (hn : In n) : Ret Try.prog 37 [.int .i64 n, .int .i64 (13 : Nat)] (.int .i64 (sgnF n 13)) := by
  have h := retV (val := fun _ => n) (F := []) holds_nil tabNil rfl rfl (f := 37) (args := [.sx .i64 (.a 0), .v (.int .i64 (.ofNat 13))]) (v := .sx .i64 (.shr (.wrap .i64 (.wrap .u64 (.shl (.wrap .u64 (.a 0)) 51))) 51)) (by kernel_rfl) (by kernel_rfl) (by kernel_rfl)
  simp only [concs, conc] at h
  have e : (SX.eval (fun _ => n) (.shr (.wrap .i64 (.wrap .u64 (.shl (.wrap .u64 (.a 0)) 51))) 51)) = sgnF n 13 := by
    obtain ⟨h1, h2⟩ := hn
    simp only [SX.eval, sgnF, wrapU, wrapI, fdivP]
    omega
  rw [← e]
  exact h

theorem low13 (n : Int) (hn : In n) : Ret Try.prog 69 [.int .i64 n, .int .i64 (13 : Nat)] (.int .i64 (lowF n 13)) := by
  have h := retV (val := fun _ => n) (F := []) holds_nil tabNil rfl rfl (f := 69) (args := [.sx .i64 (.a 0), .v (.int .i64 (.ofNat 13))]) (v := .sx .i64 (.wrap .i64 (.shr (.wrap .u64 (.shl (.wrap .u64 (.a 0)) 51)) 51))) (by kernel_rfl) (by kernel_rfl) (by kernel_rfl)
  simp only [concs, conc] at h
  have e : (SX.eval (fun _ => n) (.wrap .i64 (.shr (.wrap .u64 (.shl (.wrap .u64 (.a 0)) 51)) 51))) = lowF n 13 := by
    obtain ⟨h1, h2⟩ := hn
    simp only [SX.eval, lowF, wrapU, wrapI, fdivP]
    omega
  rw [← e]
  exact h

theorem sign14 (n : Int) (hn : In n) : Ret Try.prog 37 [.int .i64 n, .int .i64 (14 : Nat)] (.int .i64 (sgnF n 14)) := by
  have h := retV (val := fun _ => n) (F := []) holds_nil tabNil rfl rfl (f := 37) (args := [.sx .i64 (.a 0), .v (.int .i64 (.ofNat 14))]) (v := .sx .i64 (.shr (.wrap .i64 (.wrap .u64 (.shl (.wrap .u64 (.a 0)) 50))) 50)) (by kernel_rfl) (by kernel_rfl) (by kernel_rfl)
  simp only [concs, conc] at h
  have e : (SX.eval (fun _ => n) (.shr (.wrap .i64 (.wrap .u64 (.shl (.wrap .u64 (.a 0)) 50))) 50)) = sgnF n 14 := by
    obtain ⟨h1, h2⟩ := hn
    simp only [SX.eval, sgnF, wrapU, wrapI, fdivP]
    omega
  rw [← e]
  exact h

theorem low14 (n : Int) (hn : In n) : Ret Try.prog 69 [.int .i64 n, .int .i64 (14 : Nat)] (.int .i64 (lowF n 14)) := by
  have h := retV (val := fun _ => n) (F := []) holds_nil tabNil rfl rfl (f := 69) (args := [.sx .i64 (.a 0), .v (.int .i64 (.ofNat 14))]) (v := .sx .i64 (.wrap .i64 (.shr (.wrap .u64 (.shl (.wrap .u64 (.a 0)) 50)) 50))) (by kernel_rfl) (by kernel_rfl) (by kernel_rfl)
  simp only [concs, conc] at h
  have e : (SX.eval (fun _ => n) (.wrap .i64 (.shr (.wrap .u64 (.shl (.wrap .u64 (.a 0)) 50)) 50))) = lowF n 14 := by
    obtain ⟨h1, h2⟩ := hn
    simp only [SX.eval, lowF, wrapU, wrapI, fdivP]
    omega
  rw [← e]
  exact h

theorem sign15 (n : Int) (hn : In n) : Ret Try.prog 37 [.int .i64 n, .int .i64 (15 : Nat)] (.int .i64 (sgnF n 15)) := by
  have h := retV (val := fun _ => n) (F := []) holds_nil tabNil rfl rfl (f := 37) (args := [.sx .i64 (.a 0), .v (.int .i64 (.ofNat 15))]) (v := .sx .i64 (.shr (.wrap .i64 (.wrap .u64 (.shl (.wrap .u64 (.a 0)) 49))) 49)) (by kernel_rfl) (by kernel_rfl) (by kernel_rfl)
  simp only [concs, conc] at h
  have e : (SX.eval (fun _ => n) (.shr (.wrap .i64 (.wrap .u64 (.shl (.wrap .u64 (.a 0)) 49))) 49)) = sgnF n 15 := by
    obtain ⟨h1, h2⟩ := hn
    simp only [SX.eval, sgnF, wrapU, wrapI, fdivP]
    omega
  rw [← e]
  exact h

theorem low15 (n : Int) (hn : In n) : Ret Try.prog 69 [.int .i64 n, .int .i64 (15 : Nat)] (.int .i64 (lowF n 15)) := by
  have h := retV (val := fun _ => n) (F := []) holds_nil tabNil rfl rfl (f := 69) (args := [.sx .i64 (.a 0), .v (.int .i64 (.ofNat 15))]) (v := .sx .i64 (.wrap .i64 (.shr (.wrap .u64 (.shl (.wrap .u64 (.a 0)) 49)) 49))) (by kernel_rfl) (by kernel_rfl) (by kernel_rfl)
  simp only [concs, conc] at h
  have e : (SX.eval (fun _ => n) (.wrap .i64 (.shr (.wrap .u64 (.shl (.wrap .u64 (.a 0)) 49)) 49))) = lowF n 15 := by
    obtain ⟨h1, h2⟩ := hn
    simp only [SX.eval, lowF, wrapU, wrapI, fdivP]
    omega
  rw [← e]
  exact h

theorem sign16 (n : Int) (hn : In n) : Ret Try.prog 37 [.int .i64 n, .int .i64 (16 : Nat)] (.int .i64 (sgnF n 16)) := by
  have h := retV (val := fun _ => n) (F := []) holds_nil tabNil rfl rfl (f := 37) (args := [.sx .i64 (.a 0), .v (.int .i64 (.ofNat 16))]) (v := .sx .i64 (.shr (.wrap .i64 (.wrap .u64 (.shl (.wrap .u64 (.a 0)) 48))) 48)) (by kernel_rfl) (by kernel_rfl) (by kernel_rfl)
  simp only [concs, conc] at h
  have e : (SX.eval (fun _ => n) (.shr (.wrap .i64 (.wrap .u64 (.shl (.wrap .u64 (.a 0)) 48))) 48)) = sgnF n 16 := by
    obtain ⟨h1, h2⟩ := hn
    simp only [SX.eval, sgnF, wrapU, wrapI, fdivP]
    omega
  rw [← e]
  exact h

theorem low16 (n : Int) (hn : In n) : Ret Try.prog 69 [.int .i64 n, .int .i64 (16 : Nat)] (.int .i64 (lowF n 16)) := by
  have h := retV (val := fun _ => n) (F := []) holds_nil tabNil rfl rfl (f := 69) (args := [.sx .i64 (.a 0), .v (.int .i64 (.ofNat 16))]) (v := .sx .i64 (.wrap .i64 (.shr (.wrap .u64 (.shl (.wrap .u64 (.a 0)) 48)) 48))) (by kernel_rfl) (by kernel_rfl) (by kernel_rfl)
  simp only [concs, conc] at h
  have e : (SX.eval (fun _ => n) (.wrap .i64 (.shr (.wrap .u64 (.shl (.wrap .u64 (.a 0)) 48)) 48))) = lowF n 16 := by
    obtain ⟨h1, h2⟩ := hn
    simp only [SX.eval, lowF, wrapU, wrapI, fdivP]
    omega
  rw [← e]
  exact h

end Go.Proofs.Ytbenfglhomiocaa.Fld
