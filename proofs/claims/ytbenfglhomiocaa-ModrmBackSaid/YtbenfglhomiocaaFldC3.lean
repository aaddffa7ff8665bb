/-
  What field.Sign and field.Low do, by widths.
-/
import Derived.Test.YtbenfglhomiocaaFldH
namespace Go.Proofs.Ytbenfglhomiocaa.Fld
open Go.Sim
set_option maxRecDepth 100000

theorem sign33 (n : Int) (hn : In n) : Ret Try.prog 37 [.int .i64 n, .int .i64 (33 : Nat)] (.int .i64 (sgnF n 33)) := by
  have h := retV (val := fun _ => n) (F := []) holds_nil tabNil rfl rfl (f := 37) (args := [.sx .i64 (.a 0), .v (.int .i64 (.ofNat 33))]) (v := .sx .i64 (.shr (.wrap .i64 (.wrap .u64 (.shl (.wrap .u64 (.a 0)) 31))) 31)) (by kernel_rfl) (by kernel_rfl) (by kernel_rfl)
  simp only [concs, conc] at h
  have e : (SX.eval (fun _ => n) (.shr (.wrap .i64 (.wrap .u64 (.shl (.wrap .u64 (.a 0)) 31))) 31)) = sgnF n 33 := by
    obtain ⟨h1, h2⟩ := hn
    simp only [SX.eval, sgnF, wrapU, wrapI, fdivP]
    omega
  rw [← e]
  exact h

theorem low33 (n : Int) (hn : In n) : Ret Try.prog 69 [.int .i64 n, .int .i64 (33 : Nat)] (.int .i64 (lowF n 33)) := by
  have h := retV (val := fun _ => n) (F := []) holds_nil tabNil rfl rfl (f := 69) (args := [.sx .i64 (.a 0), .v (.int .i64 (.ofNat 33))]) (v := .sx .i64 (.wrap .i64 (.shr (.wrap .u64 (.shl (.wrap .u64 (.a 0)) 31)) 31))) (by kernel_rfl) (by kernel_rfl) (by kernel_rfl)
  simp only [concs, conc] at h
  have e : (SX.eval (fun _ => n) (.wrap .i64 (.shr (.wrap .u64 (.shl (.wrap .u64 (.a 0)) 31)) 31))) = lowF n 33 := by
    obtain ⟨h1, h2⟩ := hn
    simp only [SX.eval, lowF, wrapU, wrapI, fdivP]
    omega
  rw [← e]
  exact h

theorem sign34 (n : Int) (hn : In n) : Ret Try.prog 37 [.int .i64 n, .int .i64 (34 : Nat)] (.int .i64 (sgnF n 34)) := by
  have h := retV (val := fun _ => n) (F := []) holds_nil tabNil rfl rfl (f := 37) (args := [.sx .i64 (.a 0), .v (.int .i64 (.ofNat 34))]) (v := .sx .i64 (.shr (.wrap .i64 (.wrap .u64 (.shl (.wrap .u64 (.a 0)) 30))) 30)) (by kernel_rfl) (by kernel_rfl) (by kernel_rfl)
  simp only [concs, conc] at h
  have e : (SX.eval (fun _ => n) (.shr (.wrap .i64 (.wrap .u64 (.shl (.wrap .u64 (.a 0)) 30))) 30)) = sgnF n 34 := by
    obtain ⟨h1, h2⟩ := hn
    simp only [SX.eval, sgnF, wrapU, wrapI, fdivP]
    omega
  rw [← e]
  exact h

theorem low34 (n : Int) (hn : In n) : Ret Try.prog 69 [.int .i64 n, .int .i64 (34 : Nat)] (.int .i64 (lowF n 34)) := by
  have h := retV (val := fun _ => n) (F := []) holds_nil tabNil rfl rfl (f := 69) (args := [.sx .i64 (.a 0), .v (.int .i64 (.ofNat 34))]) (v := .sx .i64 (.wrap .i64 (.shr (.wrap .u64 (.shl (.wrap .u64 (.a 0)) 30)) 30))) (by kernel_rfl) (by kernel_rfl) (by kernel_rfl)
  simp only [concs, conc] at h
  have e : (SX.eval (fun _ => n) (.wrap .i64 (.shr (.wrap .u64 (.shl (.wrap .u64 (.a 0)) 30)) 30))) = lowF n 34 := by
    obtain ⟨h1, h2⟩ := hn
    simp only [SX.eval, lowF, wrapU, wrapI, fdivP]
    omega
  rw [← e]
  exact h

theorem sign35 (n : Int) (hn : In n) : Ret Try.prog 37 [.int .i64 n, .int .i64 (35 : Nat)] (.int .i64 (sgnF n 35)) := by
  have h := retV (val := fun _ => n) (F := []) holds_nil tabNil rfl rfl (f := 37) (args := [.sx .i64 (.a 0), .v (.int .i64 (.ofNat 35))]) (v := .sx .i64 (.shr (.wrap .i64 (.wrap .u64 (.shl (.wrap .u64 (.a 0)) 29))) 29)) (by kernel_rfl) (by kernel_rfl) (by kernel_rfl)
  simp only [concs, conc] at h
  have e : (SX.eval (fun _ => n) (.shr (.wrap .i64 (.wrap .u64 (.shl (.wrap .u64 (.a 0)) 29))) 29)) = sgnF n 35 := by
    obtain ⟨h1, h2⟩ := hn
    simp only [SX.eval, sgnF, wrapU, wrapI, fdivP]
    omega
  rw [← e]
  exact h

theorem low35 (n : Int) (hn : In n) : Ret Try.prog 69 [.int .i64 n, .int .i64 (35 : Nat)] (.int .i64 (lowF n 35)) := by
  have h := retV (val := fun _ => n) (F := []) holds_nil tabNil rfl rfl (f := 69) (args := [.sx .i64 (.a 0), .v (.int .i64 (.ofNat 35))]) (v := .sx .i64 (.wrap .i64 (.shr (.wrap .u64 (.shl (.wrap .u64 (.a 0)) 29)) 29))) (by kernel_rfl) (by kernel_rfl) (by kernel_rfl)
  simp only [concs, conc] at h
  have e : (SX.eval (fun _ => n) (.wrap .i64 (.shr (.wrap .u64 (.shl (.wrap .u64 (.a 0)) 29)) 29))) = lowF n 35 := by
    obtain ⟨h1, h2⟩ := hn
    simp only [SX.eval, lowF, wrapU, wrapI, fdivP]
    omega
  rw [← e]
  exact h

theorem sign36 (n : Int) (hn : In n) : Ret Try.prog 37 [.int .i64 n, .int .i64 (36 : Nat)] (.int .i64 (sgnF n 36)) := by
  have h := retV (val := fun _ => n) (F := []) holds_nil tabNil rfl rfl (f := 37) (args := [.sx .i64 (.a 0), .v (.int .i64 (.ofNat 36))]) (v := .sx .i64 (.shr (.wrap .i64 (.wrap .u64 (.shl (.wrap .u64 (.a 0)) 28))) 28)) (by kernel_rfl) (by kernel_rfl) (by kernel_rfl)
  simp only [concs, conc] at h
  have e : (SX.eval (fun _ => n) (.shr (.wrap .i64 (.wrap .u64 (.shl (.wrap .u64 (.a 0)) 28))) 28)) = sgnF n 36 := by
    obtain ⟨h1, h2⟩ := hn
    simp only [SX.eval, sgnF, wrapU, wrapI, fdivP]
    omega
  rw [← e]
  exact h

theorem low36 (n : Int) (hn : In n) : Ret Try.prog 69 [.int .i64 n, .int .i64 (36 : Nat)] (.int .i64 (lowF n 36)) := by
  have h := retV (val := fun _ => n) (F := []) holds_nil tabNil rfl rfl (f := 69) (args := [.sx .i64 (.a 0), .v (.int .i64 (.ofNat 36))]) (v := .sx .i64 (.wrap .i64 (.shr (.wrap .u64 (.shl (.wrap .u64 (.a 0)) 28)) 28))) (by kernel_rfl) (by kernel_rfl) (by kernel_rfl)
  simp only [concs, conc] at h
  have e : (SX.eval (fun _ => n) (.wrap .i64 (.shr (.wrap .u64 (.shl (.wrap .u64 (.a 0)) 28)) 28))) = lowF n 36 := by
    obtain ⟨h1, h2⟩ := hn
    simp only [SX.eval, lowF, wrapU, wrapI, fdivP]
    omega
  rw [← e]
  exact h

theorem sign37 (n : Int) (hn : In n) : Ret Try.prog 37 [.int .i64 n, .int .i64 (37 : Nat)] (.int .i64 (sgnF n 37)) := by
  have h := retV (val := fun _ => n) (F := []) holds_nil tabNil rfl rfl (f := 37) (args := [.sx .i64 (.a 0), .v (.int .i64 (.ofNat 37))]) (v := .sx .i64 (.shr (.wrap .i64 (.wrap .u64 (.shl (.wrap .u64 (.a 0)) 27))) 27)) (by kernel_rfl) (by kernel_rfl) (by kernel_rfl)
  simp only [concs, conc] at h
  have e : (SX.eval (fun _ => n) (.shr (.wrap .i64 (.wrap .u64 (.shl (.wrap .u64 (.a 0)) 27))) 27)) = sgnF n 37 := by
    obtain ⟨h1, h2⟩ := hn
    simp only [SX.eval, sgnF, wrapU, wrapI, fdivP]
    omega
  rw [← e]
  exact h

theorem low37 (n : Int) (hn : In n) : Ret Try.prog 69 [.int .i64 n, .int .i64 (37 : Nat)] (.int .i64 (lowF n 37)) := by
  have h := retV (val := fun _ => n) (F := []) holds_nil tabNil rfl rfl (f := 69) (args := [.sx .i64 (.a 0), .v (.int .i64 (.ofNat 37))]) (v := .sx .i64 (.wrap .i64 (.shr (.wrap .u64 (.shl (.wrap .u64 (.a 0)) 27)) 27))) (by kernel_rfl) (by kernel_rfl) (by kernel_rfl)
  simp only [concs, conc] at h
  have e : (SX.eval (fun _ => n) (.wrap .i64 (.shr (.wrap .u64 (.shl (.wrap .u64 (.a 0)) 27)) 27))) = lowF n 37 := by
    obtain ⟨h1, h2⟩ := hn
    simp only [SX.eval, lowF, wrapU, wrapI, fdivP]
    omega
  rw [← e]
  exact h

theorem sign38 (n : Int) (hn : In n) : Ret Try.prog 37 [.int .i64 n, .int .i64 (38 : Nat)] (.int .i64 (sgnF n 38)) := by
  have h := retV (val := fun _ => n) (F := []) holds_nil tabNil rfl rfl (f := 37) (args := [.sx .i64 (.a 0), .v (.int .i64 (.ofNat 38))]) (v := .sx .i64 (.shr (.wrap .i64 (.wrap .u64 (.shl (.wrap .u64 (.a 0)) 26))) 26)) (by kernel_rfl) (by kernel_rfl) (by kernel_rfl)
  simp only [concs, conc] at h
  have e : (SX.eval (fun _ => n) (.shr (.wrap .i64 (.wrap .u64 (.shl (.wrap .u64 (.a 0)) 26))) 26)) = sgnF n 38 := by
    obtain ⟨h1, h2⟩ := hn
    simp only [SX.eval, sgnF, wrapU, wrapI, fdivP]
    omega
  rw [← e]
  exact h

theorem low38 (n : Int) (hn : In n) : Ret Try.prog 69 [.int .i64 n, .int .i64 (38 : Nat)] (.int .i64 (lowF n 38)) := by
  have h := retV (val := fun _ => n) (F := []) holds_nil tabNil rfl rfl (f := 69) (args := [.sx .i64 (.a 0), .v (.int .i64 (.ofNat 38))]) (v := .sx .i64 (.wrap .i64 (.shr (.wrap .u64 (.shl (.wrap .u64 (.a 0)) 26)) 26))) (by kernel_rfl) (by kernel_rfl) (by kernel_rfl)
  simp only [concs, conc] at h
  have e : (SX.eval (fun _ => n) (.wrap .i64 (.shr (.wrap .u64 (.shl (.wrap .u64 (.a 0)) 26)) 26))) = lowF n 38 := by
    obtain ⟨h1, h2⟩ := hn
    simp only [SX.eval, lowF, wrapU, wrapI, fdivP]
    omega
  rw [← e]
  exact h

theorem sign39 (n : Int) (hn : In n) : Ret Try.prog 37 [.int .i64 n, .int .i64 (39 : Nat)] (.int .i64 (sgnF n 39)) := by
  have h := retV (val := fun _ => n) (F := []) holds_nil tabNil rfl rfl (f := 37) (args := [.sx .i64 (.a 0), .v (.int .i64 (.ofNat 39))]) (v := .sx .i64 (.shr (.wrap .i64 (.wrap .u64 (.shl (.wrap .u64 (.a 0)) 25))) 25)) (by kernel_rfl) (by kernel_rfl) (by kernel_rfl)
  simp only [concs, conc] at h
  have e : (SX.eval (fun _ => n) (.shr (.wrap .i64 (.wrap .u64 (.shl (.wrap .u64 (.a 0)) 25))) 25)) = sgnF n 39 := by
    obtain ⟨h1, h2⟩ := hn
    simp only [SX.eval, sgnF, wrapU, wrapI, fdivP]
    omega
  rw [← e]
  exact h

theorem low39 (n : Int) (hn : In n) : Ret Try.prog 69 [.int .i64 n, .int .i64 (39 : Nat)] (.int .i64 (lowF n 39)) := by
  have h := retV (val := fun _ => n) (F := []) holds_nil tabNil rfl rfl (f := 69) (args := [.sx .i64 (.a 0), .v (.int .i64 (.ofNat 39))]) (v := .sx .i64 (.wrap .i64 (.shr (.wrap .u64 (.shl (.wrap .u64 (.a 0)) 25)) 25))) (by kernel_rfl) (by kernel_rfl) (by kernel_rfl)
  simp only [concs, conc] at h
  have e : (SX.eval (fun _ => n) (.wrap .i64 (.shr (.wrap .u64 (.shl (.wrap .u64 (.a 0)) 25)) 25))) = lowF n 39 := by
    obtain ⟨h1, h2⟩ := hn
    simp only [SX.eval, lowF, wrapU, wrapI, fdivP]
    omega
  rw [← e]
  exact h

theorem sign40 (n : Int) (hn : In n) : Ret Try.prog 37 [.int .i64 n, .int .i64 (40 : Nat)] (.int .i64 (sgnF n 40)) := by
  have h := retV (val := fun _ => n) (F := []) holds_nil tabNil rfl rfl (f := 37) (args := [.sx .i64 (.a 0), .v (.int .i64 (.ofNat 40))]) (v := .sx .i64 (.shr (.wrap .i64 (.wrap .u64 (.shl (.wrap .u64 (.a 0)) 24))) 24)) (by kernel_rfl) (by kernel_rfl) (by kernel_rfl)
  simp only [concs, conc] at h
  have e : (SX.eval (fun _ => n) (.shr (.wrap .i64 (.wrap .u64 (.shl (.wrap .u64 (.a 0)) 24))) 24)) = sgnF n 40 := by
    obtain ⟨h1, h2⟩ := hn
    simp only [SX.eval, sgnF, wrapU, wrapI, fdivP]
    omega
  rw [← e]
  exact h

theorem low40 (n : Int) (hn : In n) : Ret Try.prog 69 [.int .i64 n, .int .i64 (40 : Nat)] (.int .i64 (lowF n 40)) := by
  have h := retV (val := fun _ => n) (F := []) holds_nil tabNil rfl rfl (f := 69) (args := [.sx .i64 (.a 0), .v (.int .i64 (.ofNat 40))]) (v := .sx .i64 (.wrap .i64 (.shr (.wrap .u64 (.shl (.wrap .u64 (.a 0)) 24)) 24))) (by kernel_rfl) (by kernel_rfl) (by kernel_rfl)
  simp only [concs, conc] at h
  have e : (SX.eval (fun _ => n) (.wrap .i64 (.shr (.wrap .u64 (.shl (.wrap .u64 (.a 0)) 24)) 24))) = lowF n 40 := by
    obtain ⟨h1, h2⟩ := hn
    simp only [SX.eval, lowF, wrapU, wrapI, fdivP]
    omega
  rw [← e]
  exact h

theorem sign41 (n : Int) (hn : In n) : Ret Try.prog 37 [.int .i64 n, .int .i64 (41 : Nat)] (.int .i64 (sgnF n 41)) := by
  have h := retV (val := fun _ => n) (F := []) holds_nil tabNil rfl rfl (f := 37) (args := [.sx .i64 (.a 0), .v (.int .i64 (.ofNat 41))]) (v := .sx .i64 (.shr (.wrap .i64 (.wrap .u64 (.shl (.wrap .u64 (.a 0)) 23))) 23)) (by kernel_rfl) (by kernel_rfl) (by kernel_rfl)
  simp only [concs, conc] at h
  have e : (SX.eval (fun _ => n) (.shr (.wrap .i64 (.wrap .u64 (.shl (.wrap .u64 (.a 0)) 23))) 23)) = sgnF n 41 := by
    obtain ⟨h1, h2⟩ := hn
    simp only [SX.eval, sgnF, wrapU, wrapI, fdivP]
    omega
  rw [← e]
  exact h

theorem low41 (n : Int) (hn : In n) : Ret Try.prog 69 [.int .i64 n, .int .i64 (41 : Nat)] (.int .i64 (lowF n 41)) := by
  have h := retV (val := fun _ => n) (F := []) holds_nil tabNil rfl rfl (f := 69) (args := [.sx .i64 (.a 0), .v (.int .i64 (.ofNat 41))]) (v := .sx .i64 (.wrap .i64 (.shr (.wrap .u64 (.shl (.wrap .u64 (.a 0)) 23)) 23))) (by kernel_rfl) (by kernel_rfl) (by kernel_rfl)
  simp only [concs, conc] at h
  have e : (SX.eval (fun _ => n) (.wrap .i64 (.shr (.wrap .u64 (.shl (.wrap .u64 (.a 0)) 23)) 23))) = lowF n 41 := by
    obtain ⟨h1, h2⟩ := hn
    simp only [SX.eval, lowF, wrapU, wrapI, fdivP]
    omega
  rw [← e]
  exact h

theorem sign42 (n : Int) (hn : In n) : Ret Try.prog 37 [.int .i64 n, .int .i64 (42 : Nat)] (.int .i64 (sgnF n 42)) := by
  have h := retV (val := fun _ => n) (F := []) holds_nil tabNil rfl rfl (f := 37) (args := [.sx .i64 (.a 0), .v (.int .i64 (.ofNat 42))]) (v := .sx .i64 (.shr (.wrap .i64 (.wrap .u64 (.shl (.wrap .u64 (.a 0)) 22))) 22)) (by kernel_rfl) (by kernel_rfl) (by kernel_rfl)
  simp only [concs, conc] at h
  have e : (SX.eval (fun _ => n) (.shr (.wrap .i64 (.wrap .u64 (.shl (.wrap .u64 (.a 0)) 22))) 22)) = sgnF n 42 := by
    obtain ⟨h1, h2⟩ := hn
    simp only [SX.eval, sgnF, wrapU, wrapI, fdivP]
    omega
  rw [← e]
  exact h

theorem low42 (n : Int) (hn : In n) : Ret Try.prog 69 [.int .i64 n, .int .i64 (42 : Nat)] (.int .i64 (lowF n 42)) := by
  have h := retV (val := fun _ => n) (F := []) holds_nil tabNil rfl rfl (f := 69) (args := [.sx .i64 (.a 0), .v (.int .i64 (.ofNat 42))]) (v := .sx .i64 (.wrap .i64 (.shr (.wrap .u64 (.shl (.wrap .u64 (.a 0)) 22)) 22))) (by kernel_rfl) (by kernel_rfl) (by kernel_rfl)
  simp only [concs, conc] at h
  have e : (SX.eval (fun _ => n) (.wrap .i64 (.shr (.wrap .u64 (.shl (.wrap .u64 (.a 0)) 22)) 22))) = lowF n 42 := by
    obtain ⟨h1, h2⟩ := hn
    simp only [SX.eval, lowF, wrapU, wrapI, fdivP]
    omega
  rw [← e]
  exact h

theorem sign43 (n : Int) (hn : In n) : Ret Try.prog 37 [.int .i64 n, .int .i64 (43 : Nat)] (.int .i64 (sgnF n 43)) := by
  have h := retV (val := fun _ => n) (F := []) holds_nil tabNil rfl rfl (f := 37) (args := [.sx .i64 (.a 0), .v (.int .i64 (.ofNat 43))]) (v := .sx .i64 (.shr (.wrap .i64 (.wrap .u64 (.shl (.wrap .u64 (.a 0)) 21))) 21)) (by kernel_rfl) (by kernel_rfl) (by kernel_rfl)
  simp only [concs, conc] at h
  have e : (SX.eval (fun _ => n) (.shr (.wrap .i64 (.wrap .u64 (.shl (.wrap .u64 (.a 0)) 21))) 21)) = sgnF n 43 := by
    obtain ⟨h1, h2⟩ := hn
    simp only [SX.eval, sgnF, wrapU, wrapI, fdivP]
    omega
  rw [← e]
  exact h

theorem low43 (n : Int) (hn : In n) : Ret Try.prog 69 [.int .i64 n, .int .i64 (43 : Nat)] (.int .i64 (lowF n 43)) := by
  have h := retV (val := fun _ => n) (F := []) holds_nil tabNil rfl rfl (f := 69) (args := [.sx .i64 (.a 0), .v (.int .i64 (.ofNat 43))]) (v := .sx .i64 (.wrap .i64 (.shr (.wrap .u64 (.shl (.wrap .u64 (.a 0)) 21)) 21))) (by kernel_rfl) (by kernel_rfl) (by kernel_rfl)
  simp only [concs, conc] at h
  have e : (SX.eval (fun _ => n) (.wrap .i64 (.shr (.wrap .u64 (.shl (.wrap .u64 (.a 0)) 21)) 21))) = lowF n 43 := by
    obtain ⟨h1, h2⟩ := hn
    simp only [SX.eval, lowF, wrapU, wrapI, fdivP]
    omega
  rw [← e]
  exact h

theorem sign44 (n : Int) (hn : In n) : Ret Try.prog 37 [.int .i64 n, .int .i64 (44 : Nat)] (.int .i64 (sgnF n 44)) := by
  have h := retV (val := fun _ => n) (F := []) holds_nil tabNil rfl rfl (f := 37) (args := [.sx .i64 (.a 0), .v (.int .i64 (.ofNat 44))]) (v := .sx .i64 (.shr (.wrap .i64 (.wrap .u64 (.shl (.wrap .u64 (.a 0)) 20))) 20)) (by kernel_rfl) (by kernel_rfl) (by kernel_rfl)
  simp only [concs, conc] at h
  have e : (SX.eval (fun _ => n) (.shr (.wrap .i64 (.wrap .u64 (.shl (.wrap .u64 (.a 0)) 20))) 20)) = sgnF n 44 := by
    obtain ⟨h1, h2⟩ := hn
    simp only [SX.eval, sgnF, wrapU, wrapI, fdivP]
    omega
  rw [← e]
  exact h

theorem low44 (n : Int) (hn : In n) : Ret Try.prog 69 [.int .i64 n, .int .i64 (44 : Nat)] (.int .i64 (lowF n 44)) := by
  have h := retV (val := fun _ => n) (F := []) holds_nil tabNil rfl rfl (f := 69) (args := [.sx .i64 (.a 0), .v (.int .i64 (.ofNat 44))]) (v := .sx .i64 (.wrap .i64 (.shr (.wrap .u64 (.shl (.wrap .u64 (.a 0)) 20)) 20))) (by kernel_rfl) (by kernel_rfl) (by kernel_rfl)
  simp only [concs, conc] at h
  have e : (SX.eval (fun _ => n) (.wrap .i64 (.shr (.wrap .u64 (.shl (.wrap .u64 (.a 0)) 20)) 20))) = lowF n 44 := by
    obtain ⟨h1, h2⟩ := hn
    simp only [SX.eval, lowF, wrapU, wrapI, fdivP]
    omega
  rw [← e]
  exact h

theorem sign45 (n : Int) (hn : In n) : Ret Try.prog 37 [.int .i64 n, .int .i64 (45 : Nat)] (.int .i64 (sgnF n 45)) := by
  have h := retV (val := fun _ => n) (F := []) holds_nil tabNil rfl rfl (f := 37) (args := [.sx .i64 (.a 0), .v (.int .i64 (.ofNat 45))]) (v := .sx .i64 (.shr (.wrap .i64 (.wrap .u64 (.shl (.wrap .u64 (.a 0)) 19))) 19)) (by kernel_rfl) (by kernel_rfl) (by kernel_rfl)
  simp only [concs, conc] at h
  have e : (SX.eval (fun _ => n) (.shr (.wrap .i64 (.wrap .u64 (.shl (.wrap .u64 (.a 0)) 19))) 19)) = sgnF n 45 := by
    obtain ⟨h1, h2⟩ := hn
    simp only [SX.eval, sgnF, wrapU, wrapI, fdivP]
    omega
  rw [← e]
  exact h

theorem low45 (n : Int) (hn : In n) : Ret Try.prog 69 [.int .i64 n, .int .i64 (45 : Nat)] (.int .i64 (lowF n 45)) := by
  have h := retV (val := fun _ => n) (F := []) holds_nil tabNil rfl rfl (f := 69) (args := [.sx .i64 (.a 0), .v (.int .i64 (.ofNat 45))]) (v := .sx .i64 (.wrap .i64 (.shr (.wrap .u64 (.shl (.wrap .u64 (.a 0)) 19)) 19))) (by kernel_rfl) (by kernel_rfl) (by kernel_rfl)
  simp only [concs, conc] at h
  have e : (SX.eval (fun _ => n) (.wrap .i64 (.shr (.wrap .u64 (.shl (.wrap .u64 (.a 0)) 19)) 19))) = lowF n 45 := by
    obtain ⟨h1, h2⟩ := hn
    simp only [SX.eval, lowF, wrapU, wrapI, fdivP]
    omega
  rw [← e]
  exact h

theorem sign46 (n : Int) (hn : In n) : Ret Try.prog 37 [.int .i64 n, .int .i64 (46 : Nat)] (.int .i64 (sgnF n 46)) := by
  have h := retV (val := fun _ => n) (F := []) holds_nil tabNil rfl rfl (f := 37) (args := [.sx .i64 (.a 0), .v (.int .i64 (.ofNat 46))]) (v := .sx .i64 (.shr (.wrap .i64 (.wrap .u64 (.shl (.wrap .u64 (.a 0)) 18))) 18)) (by kernel_rfl) (by kernel_rfl) (by kernel_rfl)
  simp only [concs, conc] at h
  have e : (SX.eval (fun _ => n) (.shr (.wrap .i64 (.wrap .u64 (.shl (.wrap .u64 (.a 0)) 18))) 18)) = sgnF n 46 := by
    obtain ⟨h1, h2⟩ := hn
    simp only [SX.eval, sgnF, wrapU, wrapI, fdivP]
    omega
  rw [← e]
  exact h

theorem low46 (n : Int) (hn : In n) : Ret Try.prog 69 [.int .i64 n, .int .i64 (46 : Nat)] (.int .i64 (lowF n 46)) := by
  have h := retV (val := fun _ => n) (F := []) holds_nil tabNil rfl rfl (f := 69) (args := [.sx .i64 (.a 0), .v (.int .i64 (.ofNat 46))]) (v := .sx .i64 (.wrap .i64 (.shr (.wrap .u64 (.shl (.wrap .u64 (.a 0)) 18)) 18))) (by kernel_rfl) (by kernel_rfl) (by kernel_rfl)
  simp only [concs, conc] at h
  have e : (SX.eval (fun _ => n) (.wrap .i64 (.shr (.wrap .u64 (.shl (.wrap .u64 (.a 0)) 18)) 18))) = lowF n 46 := by
    obtain ⟨h1, h2⟩ := hn
    simp only [SX.eval, lowF, wrapU, wrapI, fdivP]
    omega
  rw [← e]
  exact h

theorem sign47 (n : Int) (hn : In n) : Ret Try.prog 37 [.int .i64 n, .int .i64 (47 : Nat)] (.int .i64 (sgnF n 47)) := by
  have h := retV (val := fun _ => n) (F := []) holds_nil tabNil rfl rfl (f := 37) (args := [.sx .i64 (.a 0), .v (.int .i64 (.ofNat 47))]) (v := .sx .i64 (.shr (.wrap .i64 (.wrap .u64 (.shl (.wrap .u64 (.a 0)) 17))) 17)) (by kernel_rfl) (by kernel_rfl) (by kernel_rfl)
  simp only [concs, conc] at h
  have e : (SX.eval (fun _ => n) (.shr (.wrap .i64 (.wrap .u64 (.shl (.wrap .u64 (.a 0)) 17))) 17)) = sgnF n 47 := by
    obtain ⟨h1, h2⟩ := hn
    simp only [SX.eval, sgnF, wrapU, wrapI, fdivP]
    omega
  rw [← e]
  exact h

theorem low47 (n : Int) (hn : In n) : Ret Try.prog 69 [.int .i64 n, .int .i64 (47 : Nat)] (.int .i64 (lowF n 47)) := by
  have h := retV (val := fun _ => n) (F := []) holds_nil tabNil rfl rfl (f := 69) (args := [.sx .i64 (.a 0), .v (.int .i64 (.ofNat 47))]) (v := .sx .i64 (.wrap .i64 (.shr (.wrap .u64 (.shl (.wrap .u64 (.a 0)) 17)) 17))) (by kernel_rfl) (by kernel_rfl) (by kernel_rfl)
  simp only [concs, conc] at h
  have e : (SX.eval (fun _ => n) (.wrap .i64 (.shr (.wrap .u64 (.shl (.wrap .u64 (.a 0)) 17)) 17))) = lowF n 47 := by
    obtain ⟨h1, h2⟩ := hn
    simp only [SX.eval, lowF, wrapU, wrapI, fdivP]
    omega
  rw [← e]
  exact h

theorem sign48 (n : Int) (hn : In n) : Ret Try.prog 37 [.int .i64 n, .int .i64 (48 : Nat)] (.int .i64 (sgnF n 48)) := by
  have h := retV (val := fun _ => n) (F := []) holds_nil tabNil rfl rfl (f := 37) (args := [.sx .i64 (.a 0), .v (.int .i64 (.ofNat 48))]) (v := .sx .i64 (.shr (.wrap .i64 (.wrap .u64 (.shl (.wrap .u64 (.a 0)) 16))) 16)) (by kernel_rfl) (by kernel_rfl) (by kernel_rfl)
  simp only [concs, conc] at h
  have e : (SX.eval (fun _ => n) (.shr (.wrap .i64 (.wrap .u64 (.shl (.wrap .u64 (.a 0)) 16))) 16)) = sgnF n 48 := by
    obtain ⟨h1, h2⟩ := hn
    simp only [SX.eval, sgnF, wrapU, wrapI, fdivP]
    omega
  rw [← e]
  exact h

theorem low48 (n : Int) (hn : In n) : Ret Try.prog 69 [.int .i64 n, .int .i64 (48 : Nat)] (.int .i64 (lowF n 48)) := by
  have h := retV (val := fun _ => n) (F := []) holds_nil tabNil rfl rfl (f := 69) (args := [.sx .i64 (.a 0), .v (.int .i64 (.ofNat 48))]) (v := .sx .i64 (.wrap .i64 (.shr (.wrap .u64 (.shl (.wrap .u64 (.a 0)) 16)) 16))) (by kernel_rfl) (by kernel_rfl) (by kernel_rfl)
  simp only [concs, conc] at h
  have e : (SX.eval (fun _ => n) (.wrap .i64 (.shr (.wrap .u64 (.shl (.wrap .u64 (.a 0)) 16)) 16))) = lowF n 48 := by
    obtain ⟨h1, h2⟩ := hn
    simp only [SX.eval, lowF, wrapU, wrapI, fdivP]
    omega
  rw [← e]
  exact h

end Go.Proofs.Ytbenfglhomiocaa.Fld
