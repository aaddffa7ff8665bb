/-
  What field.Sign and field.Low do, by widths.
-/
import Derived.Test.YtbenfglhomiocaaFldH
namespace Go.Proofs.Ytbenfglhomiocaa.Fld
open Go.Sim
set_option maxRecDepth 100000

theorem sign17 (n : Int) (hn : In n) : Ret Try.prog 37 [.int .i64 n, .int .i64 (17 : Nat)] (.int .i64 (sgnF n 17)) := by
  have h := retV (val := fun _ => n) (F := []) holds_nil tabNil rfl rfl (f := 37) (args := [.sx .i64 (.a 0), .v (.int .i64 (.ofNat 17))]) (v := .sx .i64 (.shr (.wrap .i64 (.wrap .u64 (.shl (.wrap .u64 (.a 0)) 47))) 47)) (by kernel_rfl) (by kernel_rfl) (by kernel_rfl)
  simp only [concs, conc] at h
  have e : (SX.eval (fun _ => n) (.shr (.wrap .i64 (.wrap .u64 (.shl (.wrap .u64 (.a 0)) 47))) 47)) = sgnF n 17 := by
    obtain ⟨h1, h2⟩ := hn
    simp only [SX.eval, sgnF, wrapU, wrapI, fdivP]
    omega
  rw [← e]
  exact h

theorem low17 (n : Int) (hn : In n) : Ret Try.prog 69 [.int .i64 n, .int .i64 (17 : Nat)] (.int .i64 (lowF n 17)) := by
  have h := retV (val := fun _ => n) (F := []) holds_nil tabNil rfl rfl (f := 69) (args := [.sx .i64 (.a 0), .v (.int .i64 (.ofNat 17))]) (v := .sx .i64 (.wrap .i64 (.shr (.wrap .u64 (.shl (.wrap .u64 (.a 0)) 47)) 47))) (by kernel_rfl) (by kernel_rfl) (by kernel_rfl)
  simp only [concs, conc] at h
  have e : (SX.eval (fun _ => n) (.wrap .i64 (.shr (.wrap .u64 (.shl (.wrap .u64 (.a 0)) 47)) 47))) = lowF n 17 := by
    obtain ⟨h1, h2⟩ := hn
    simp only [SX.eval, lowF, wrapU, wrapI, fdivP]
    omega
  rw [← e]
  exact h

theorem sign18 (n : Int) (hn : In n) : Ret Try.prog 37 [.int .i64 n, .int .i64 (18 : Nat)] (.int .i64 (sgnF n 18)) := by
  have h := retV (val := fun _ => n) (F := []) holds_nil tabNil rfl rfl (f := 37) (args := [.sx .i64 (.a 0), .v (.int .i64 (.ofNat 18))]) (v := .sx .i64 (.shr (.wrap .i64 (.wrap .u64 (.shl (.wrap .u64 (.a 0)) 46))) 46)) (by kernel_rfl) (by kernel_rfl) (by kernel_rfl)
  simp only [concs, conc] at h
  have e : (SX.eval (fun _ => n) (.shr (.wrap .i64 (.wrap .u64 (.shl (.wrap .u64 (.a 0)) 46))) 46)) = sgnF n 18 := by
    obtain ⟨h1, h2⟩ := hn
    simp only [SX.eval, sgnF, wrapU, wrapI, fdivP]
    omega
  rw [← e]
  exact h

theorem low18 (n : Int) (hn : In n) : Ret Try.prog 69 [.int .i64 n, .int .i64 (18 : Nat)] (.int .i64 (lowF n 18)) := by
  have h := retV (val := fun _ => n) (F := []) holds_nil tabNil rfl rfl (f := 69) (args := [.sx .i64 (.a 0), .v (.int .i64 (.ofNat 18))]) (v := .sx .i64 (.wrap .i64 (.shr (.wrap .u64 (.shl (.wrap .u64 (.a 0)) 46)) 46))) (by kernel_rfl) (by kernel_rfl) (by kernel_rfl)
  simp only [concs, conc] at h
  have e : (SX.eval (fun _ => n) (.wrap .i64 (.shr (.wrap .u64 (.shl (.wrap .u64 (.a 0)) 46)) 46))) = lowF n 18 := by
    obtain ⟨h1, h2⟩ := hn
    simp only [SX.eval, lowF, wrapU, wrapI, fdivP]
    omega
  rw [← e]
  exact h

theorem sign19 (n : Int) (hn : In n) : Ret Try.prog 37 [.int .i64 n, .int .i64 (19 : Nat)] (.int .i64 (sgnF n 19)) := by
  have h := retV (val := fun _ => n) (F := []) holds_nil tabNil rfl rfl (f := 37) (args := [.sx .i64 (.a 0), .v (.int .i64 (.ofNat 19))]) (v := .sx .i64 (.shr (.wrap .i64 (.wrap .u64 (.shl (.wrap .u64 (.a 0)) 45))) 45)) (by kernel_rfl) (by kernel_rfl) (by kernel_rfl)
  simp only [concs, conc] at h
  have e : (SX.eval (fun _ => n) (.shr (.wrap .i64 (.wrap .u64 (.shl (.wrap .u64 (.a 0)) 45))) 45)) = sgnF n 19 := by
    obtain ⟨h1, h2⟩ := hn
    simp only [SX.eval, sgnF, wrapU, wrapI, fdivP]
    omega
  rw [← e]
  exact h

theorem low19 (n : Int) (hn : In n) : Ret Try.prog 69 [.int .i64 n, .int .i64 (19 : Nat)] (.int .i64 (lowF n 19)) := by
  have h := retV (val := fun _ => n) (F := []) holds_nil tabNil rfl rfl (f := 69) (args := [.sx .i64 (.a 0), .v (.int .i64 (.ofNat 19))]) (v := .sx .i64 (.wrap .i64 (.shr (.wrap .u64 (.shl (.wrap .u64 (.a 0)) 45)) 45))) (by kernel_rfl) (by kernel_rfl) (by kernel_rfl)
  simp only [concs, conc] at h
  have e : (SX.eval (fun _ => n) (.wrap .i64 (.shr (.wrap .u64 (.shl (.wrap .u64 (.a 0)) 45)) 45))) = lowF n 19 := by
    obtain ⟨h1, h2⟩ := hn
    simp only [SX.eval, lowF, wrapU, wrapI, fdivP]
    omega
  rw [← e]
  exact h

theorem sign20 (n : Int) (hn : In n) : Ret Try.prog 37 [.int .i64 n, .int .i64 (20 : Nat)] (.int .i64 (sgnF n 20)) := by
  have h := retV (val := fun _ => n) (F := []) holds_nil tabNil rfl rfl (f := 37) (args := [.sx .i64 (.a 0), .v (.int .i64 (.ofNat 20))]) (v := .sx .i64 (.shr (.wrap .i64 (.wrap .u64 (.shl (.wrap .u64 (.a 0)) 44))) 44)) (by kernel_rfl) (by kernel_rfl) (by kernel_rfl)
  simp only [concs, conc] at h
  have e : (SX.eval (fun _ => n) (.shr (.wrap .i64 (.wrap .u64 (.shl (.wrap .u64 (.a 0)) 44))) 44)) = sgnF n 20 := by
    obtain ⟨h1, h2⟩ := hn
    simp only [SX.eval, sgnF, wrapU, wrapI, fdivP]
    omega
  rw [← e]
  exact h

theorem low20 (n : Int) (hn : In n) : Ret Try.prog 69 [.int .i64 n, .int .i64 (20 : Nat)] (.int .i64 (lowF n 20)) := by
  have h := retV (val := fun _ => n) (F := []) holds_nil tabNil rfl rfl (f := 69) (args := [.sx .i64 (.a 0), .v (.int .i64 (.ofNat 20))]) (v := .sx .i64 (.wrap .i64 (.shr (.wrap .u64 (.shl (.wrap .u64 (.a 0)) 44)) 44))) (by kernel_rfl) (by kernel_rfl) (by kernel_rfl)
  simp only [concs, conc] at h
  have e : (SX.eval (fun _ => n) (.wrap .i64 (.shr (.wrap .u64 (.shl (.wrap .u64 (.a 0)) 44)) 44))) = lowF n 20 := by
    obtain ⟨h1, h2⟩ := hn
    simp only [SX.eval, lowF, wrapU, wrapI, fdivP]
    omega
  rw [← e]
  exact h

theorem sign21 (n : Int) (hn : In n) : Ret Try.prog 37 [.int .i64 n, .int .i64 (21 : Nat)] (.int .i64 (sgnF n 21)) := by
  have h := retV (val := fun _ => n) (F := []) holds_nil tabNil rfl rfl (f := 37) (args := [.sx .i64 (.a 0), .v (.int .i64 (.ofNat 21))]) (v := .sx .i64 (.shr (.wrap .i64 (.wrap .u64 (.shl (.wrap .u64 (.a 0)) 43))) 43)) (by kernel_rfl) (by kernel_rfl) (by kernel_rfl)
  simp only [concs, conc] at h
  have e : (SX.eval (fun _ => n) (.shr (.wrap .i64 (.wrap .u64 (.shl (.wrap .u64 (.a 0)) 43))) 43)) = sgnF n 21 := by
    obtain ⟨h1, h2⟩ := hn
    simp only [SX.eval, sgnF, wrapU, wrapI, fdivP]
    omega
  rw [← e]
  exact h

theorem low21 (n : Int) (hn : In n) : Ret Try.prog 69 [.int .i64 n, .int .i64 (21 : Nat)] (.int .i64 (lowF n 21)) := by
  have h := retV (val := fun _ => n) (F := []) holds_nil tabNil rfl rfl (f := 69) (args := [.sx .i64 (.a 0), .v (.int .i64 (.ofNat 21))]) (v := .sx .i64 (.wrap .i64 (.shr (.wrap .u64 (.shl (.wrap .u64 (.a 0)) 43)) 43))) (by kernel_rfl) (by kernel_rfl) (by kernel_rfl)
  simp only [concs, conc] at h
  have e : (SX.eval (fun _ => n) (.wrap .i64 (.shr (.wrap .u64 (.shl (.wrap .u64 (.a 0)) 43)) 43))) = lowF n 21 := by
    obtain ⟨h1, h2⟩ := hn
    simp only [SX.eval, lowF, wrapU, wrapI, fdivP]
    omega
  rw [← e]
  exact h

theorem sign22 (n : Int) (hn : In n) : Ret Try.prog 37 [.int .i64 n, .int .i64 (22 : Nat)] (.int .i64 (sgnF n 22)) := by
  have h := retV (val := fun _ => n) (F := []) holds_nil tabNil rfl rfl (f := 37) (args := [.sx .i64 (.a 0), .v (.int .i64 (.ofNat 22))]) (v := .sx .i64 (.shr (.wrap .i64 (.wrap .u64 (.shl (.wrap .u64 (.a 0)) 42))) 42)) (by kernel_rfl) (by kernel_rfl) (by kernel_rfl)
  simp only [concs, conc] at h
  have e : (SX.eval (fun _ => n) (.shr (.wrap .i64 (.wrap .u64 (.shl (.wrap .u64 (.a 0)) 42))) 42)) = sgnF n 22 := by
    obtain ⟨h1, h2⟩ := hn
    simp only [SX.eval, sgnF, wrapU, wrapI, fdivP]
    omega
  rw [← e]
  exact h

theorem low22 (n : Int) (hn : In n) : Ret Try.prog 69 [.int .i64 n, .int .i64 (22 : Nat)] (.int .i64 (lowF n 22)) := by
  have h := retV (val := fun _ => n) (F := []) holds_nil tabNil rfl rfl (f := 69) (args := [.sx .i64 (.a 0), .v (.int .i64 (.ofNat 22))]) (v := .sx .i64 (.wrap .i64 (.shr (.wrap .u64 (.shl (.wrap .u64 (.a 0)) 42)) 42))) (by kernel_rfl) (by kernel_rfl) (by kernel_rfl)
  simp only [concs, conc] at h
  have e : (SX.eval (fun _ => n) (.wrap .i64 (.shr (.wrap .u64 (.shl (.wrap .u64 (.a 0)) 42)) 42))) = lowF n 22 := by
    obtain ⟨h1, h2⟩ := hn
    simp only [SX.eval, lowF, wrapU, wrapI, fdivP]
    omega
  rw [← e]
  exact h

theorem sign23 (n : Int) (hn : In n) : Ret Try.prog 37 [.int .i64 n, .int .i64 (23 : Nat)] (.int .i64 (sgnF n 23)) := by
  have h := retV (val := fun _ => n) (F := []) holds_nil tabNil rfl rfl (f := 37) (args := [.sx .i64 (.a 0), .v (.int .i64 (.ofNat 23))]) (v := .sx .i64 (.shr (.wrap .i64 (.wrap .u64 (.shl (.wrap .u64 (.a 0)) 41))) 41)) (by kernel_rfl) (by kernel_rfl) (by kernel_rfl)
  simp only [concs, conc] at h
  have e : (SX.eval (fun _ => n) (.shr (.wrap .i64 (.wrap .u64 (.shl (.wrap .u64 (.a 0)) 41))) 41)) = sgnF n 23 := by
    obtain ⟨h1, h2⟩ := hn
    simp only [SX.eval, sgnF, wrapU, wrapI, fdivP]
    omega
  rw [← e]
  exact h

theorem low23 (n : Int) (hn : In n) : Ret Try.prog 69 [.int .i64 n, .int .i64 (23 : Nat)] (.int .i64 (lowF n 23)) := by
  have h := retV (val := fun _ => n) (F := []) holds_nil tabNil rfl rfl (f := 69) (args := [.sx .i64 (.a 0), .v (.int .i64 (.ofNat 23))]) (v := .sx .i64 (.wrap .i64 (.shr (.wrap .u64 (.shl (.wrap .u64 (.a 0)) 41)) 41))) (by kernel_rfl) (by kernel_rfl) (by kernel_rfl)
  simp only [concs, conc] at h
  have e : (SX.eval (fun _ => n) (.wrap .i64 (.shr (.wrap .u64 (.shl (.wrap .u64 (.a 0)) 41)) 41))) = lowF n 23 := by
    obtain ⟨h1, h2⟩ := hn
    simp only [SX.eval, lowF, wrapU, wrapI, fdivP]
    omega
  rw [← e]
  exact h

theorem sign24 (n : Int) (hn : In n) : Ret Try.prog 37 [.int .i64 n, .int .i64 (24 : Nat)] (.int .i64 (sgnF n 24)) := by
  have h := retV (val := fun _ => n) (F := []) holds_nil tabNil rfl rfl (f := 37) (args := [.sx .i64 (.a 0), .v (.int .i64 (.ofNat 24))]) (v := .sx .i64 (.shr (.wrap .i64 (.wrap .u64 (.shl (.wrap .u64 (.a 0)) 40))) 40)) (by kernel_rfl) (by kernel_rfl) (by kernel_rfl)
  simp only [concs, conc] at h
  have e : (SX.eval (fun _ => n) (.shr (.wrap .i64 (.wrap .u64 (.shl (.wrap .u64 (.a 0)) 40))) 40)) = sgnF n 24 := by
    obtain ⟨h1, h2⟩ := hn
    simp only [SX.eval, sgnF, wrapU, wrapI, fdivP]
    omega
  rw [← e]
  exact h

theorem low24 (n : Int) (hn : In n) : Ret Try.prog 69 [.int .i64 n, .int .i64 (24 : Nat)] (.int .i64 (lowF n 24)) := by
  have h := retV (val := fun _ => n) (F := []) holds_nil tabNil rfl rfl (f := 69) (args := [.sx .i64 (.a 0), .v (.int .i64 (.ofNat 24))]) (v := .sx .i64 (.wrap .i64 (.shr (.wrap .u64 (.shl (.wrap .u64 (.a 0)) 40)) 40))) (by kernel_rfl) (by kernel_rfl) (by kernel_rfl)
  simp only [concs, conc] at h
  have e : (SX.eval (fun _ => n) (.wrap .i64 (.shr (.wrap .u64 (.shl (.wrap .u64 (.a 0)) 40)) 40))) = lowF n 24 := by
    obtain ⟨h1, h2⟩ := hn
    simp only [SX.eval, lowF, wrapU, wrapI, fdivP]
    omega
  rw [← e]
  exact h

theorem sign25 (n : Int) (hn : In n) : Ret Try.prog 37 [.int .i64 n, .int .i64 (25 : Nat)] (.int .i64 (sgnF n 25)) := by
  have h := retV (val := fun _ => n) (F := []) holds_nil tabNil rfl rfl (f := 37) (args := [.sx .i64 (.a 0), .v (.int .i64 (.ofNat 25))]) (v := .sx .i64 (.shr (.wrap .i64 (.wrap .u64 (.shl (.wrap .u64 (.a 0)) 39))) 39)) (by kernel_rfl) (by kernel_rfl) (by kernel_rfl)
  simp only [concs, conc] at h
  have e : (SX.eval (fun _ => n) (.shr (.wrap .i64 (.wrap .u64 (.shl (.wrap .u64 (.a 0)) 39))) 39)) = sgnF n 25 := by
    obtain ⟨h1, h2⟩ := hn
    simp only [SX.eval, sgnF, wrapU, wrapI, fdivP]
    omega
  rw [← e]
  exact h

theorem low25 (n : Int) (hn : In n) : Ret Try.prog 69 [.int .i64 n, .int .i64 (25 : Nat)] (.int .i64 (lowF n 25)) := by
  have h := retV (val := fun _ => n) (F := []) holds_nil tabNil rfl rfl (f := 69) (args := [.sx .i64 (.a 0), .v (.int .i64 (.ofNat 25))]) (v := .sx .i64 (.wrap .i64 (.shr (.wrap .u64 (.shl (.wrap .u64 (.a 0)) 39)) 39))) (by kernel_rfl) (by kernel_rfl) (by kernel_rfl)
  simp only [concs, conc] at h
  have e : (SX.eval (fun _ => n) (.wrap .i64 (.shr (.wrap .u64 (.shl (.wrap .u64 (.a 0)) 39)) 39))) = lowF n 25 := by
    obtain ⟨h1, h2⟩ := hn
    simp only [SX.eval, lowF, wrapU, wrapI, fdivP]
    omega
  rw [← e]
  exact h

theorem sign26 (n : Int) (hn : In n) : Ret Try.prog 37 [.int .i64 n, .int .i64 (26 : Nat)] (.int .i64 (sgnF n 26)) := by
  have h := retV (val := fun _ => n) (F := []) holds_nil tabNil rfl rfl (f := 37) (args := [.sx .i64 (.a 0), .v (.int .i64 (.ofNat 26))]) (v := .sx .i64 (.shr (.wrap .i64 (.wrap .u64 (.shl (.wrap .u64 (.a 0)) 38))) 38)) (by kernel_rfl) (by kernel_rfl) (by kernel_rfl)
  simp only [concs, conc] at h
  have e : (SX.eval (fun _ => n) (.shr (.wrap .i64 (.wrap .u64 (.shl (.wrap .u64 (.a 0)) 38))) 38)) = sgnF n 26 := by
    obtain ⟨h1, h2⟩ := hn
    simp only [SX.eval, sgnF, wrapU, wrapI, fdivP]
    omega
  rw [← e]
  exact h

theorem low26 (n : Int) (hn : In n) : Ret Try.prog 69 [.int .i64 n, .int .i64 (26 : Nat)] (.int .i64 (lowF n 26)) := by
  have h := retV (val := fun _ => n) (F := []) holds_nil tabNil rfl rfl (f := 69) (args := [.sx .i64 (.a 0), .v (.int .i64 (.ofNat 26))]) (v := .sx .i64 (.wrap .i64 (.shr (.wrap .u64 (.shl (.wrap .u64 (.a 0)) 38)) 38))) (by kernel_rfl) (by kernel_rfl) (by kernel_rfl)
  simp only [concs, conc] at h
  have e : (SX.eval (fun _ => n) (.wrap .i64 (.shr (.wrap .u64 (.shl (.wrap .u64 (.a 0)) 38)) 38))) = lowF n 26 := by
    obtain ⟨h1, h2⟩ := hn
    simp only [SX.eval, lowF, wrapU, wrapI, fdivP]
    omega
  rw [← e]
  exact h

theorem sign27 (n : Int) (hn : In n) : Ret Try.prog 37 [.int .i64 n, .int .i64 (27 : Nat)] (.int .i64 (sgnF n 27)) := by
  have h := retV (val := fun _ => n) (F := []) holds_nil tabNil rfl rfl (f := 37) (args := [.sx .i64 (.a 0), .v (.int .i64 (.ofNat 27))]) (v := .sx .i64 (.shr (.wrap .i64 (.wrap .u64 (.shl (.wrap .u64 (.a 0)) 37))) 37)) (by kernel_rfl) (by kernel_rfl) (by kernel_rfl)
  simp only [concs, conc] at h
  have e : (SX.eval (fun _ => n) (.shr (.wrap .i64 (.wrap .u64 (.shl (.wrap .u64 (.a 0)) 37))) 37)) = sgnF n 27 := by
    obtain ⟨h1, h2⟩ := hn
    simp only [SX.eval, sgnF, wrapU, wrapI, fdivP]
    omega
  rw [← e]
  exact h

theorem low27 (n : Int) (hn : In n) : Ret Try.prog 69 [.int .i64 n, .int .i64 (27 : Nat)] (.int .i64 (lowF n 27)) := by
  have h := retV (val := fun _ => n) (F := []) holds_nil tabNil rfl rfl (f := 69) (args := [.sx .i64 (.a 0), .v (.int .i64 (.ofNat 27))]) (v := .sx .i64 (.wrap .i64 (.shr (.wrap .u64 (.shl (.wrap .u64 (.a 0)) 37)) 37))) (by kernel_rfl) (by kernel_rfl) (by kernel_rfl)
  simp only [concs, conc] at h
  have e : (SX.eval (fun _ => n) (.wrap .i64 (.shr (.wrap .u64 (.shl (.wrap .u64 (.a 0)) 37)) 37))) = lowF n 27 := by
    obtain ⟨h1, h2⟩ := hn
    simp only [SX.eval, lowF, wrapU, wrapI, fdivP]
    omega
  rw [← e]
  exact h

theorem sign28 (n : Int) (hn : In n) : Ret Try.prog 37 [.int .i64 n, .int .i64 (28 : Nat)] (.int .i64 (sgnF n 28)) := by
  have h := retV (val := fun _ => n) (F := []) holds_nil tabNil rfl rfl (f := 37) (args := [.sx .i64 (.a 0), .v (.int .i64 (.ofNat 28))]) (v := .sx .i64 (.shr (.wrap .i64 (.wrap .u64 (.shl (.wrap .u64 (.a 0)) 36))) 36)) (by kernel_rfl) (by kernel_rfl) (by kernel_rfl)
  simp only [concs, conc] at h
  have e : (SX.eval (fun _ => n) (.shr (.wrap .i64 (.wrap .u64 (.shl (.wrap .u64 (.a 0)) 36))) 36)) = sgnF n 28 := by
    obtain ⟨h1, h2⟩ := hn
    simp only [SX.eval, sgnF, wrapU, wrapI, fdivP]
    omega
  rw [← e]
  exact h

theorem low28 (n : Int) (hn : In n) : Ret Try.prog 69 [.int .i64 n, .int .i64 (28 : Nat)] (.int .i64 (lowF n 28)) := by
  have h := retV (val := fun _ => n) (F := []) holds_nil tabNil rfl rfl (f := 69) (args := [.sx .i64 (.a 0), .v (.int .i64 (.ofNat 28))]) (v := .sx .i64 (.wrap .i64 (.shr (.wrap .u64 (.shl (.wrap .u64 (.a 0)) 36)) 36))) (by kernel_rfl) (by kernel_rfl) (by kernel_rfl)
  simp only [concs, conc] at h
  have e : (SX.eval (fun _ => n) (.wrap .i64 (.shr (.wrap .u64 (.shl (.wrap .u64 (.a 0)) 36)) 36))) = lowF n 28 := by
    obtain ⟨h1, h2⟩ := hn
    simp only [SX.eval, lowF, wrapU, wrapI, fdivP]
    omega
  rw [← e]
  exact h

theorem sign29 (n : Int) (hn : In n) : Ret Try.prog 37 [.int .i64 n, .int .i64 (29 : Nat)] (.int .i64 (sgnF n 29)) := by
  have h := retV (val := fun _ => n) (F := []) holds_nil tabNil rfl rfl (f := 37) (args := [.sx .i64 (.a 0), .v (.int .i64 (.ofNat 29))]) (v := .sx .i64 (.shr (.wrap .i64 (.wrap .u64 (.shl (.wrap .u64 (.a 0)) 35))) 35)) (by kernel_rfl) (by kernel_rfl) (by kernel_rfl)
  simp only [concs, conc] at h
  have e : (SX.eval (fun _ => n) (.shr (.wrap .i64 (.wrap .u64 (.shl (.wrap .u64 (.a 0)) 35))) 35)) = sgnF n 29 := by
    obtain ⟨h1, h2⟩ := hn
    simp only [SX.eval, sgnF, wrapU, wrapI, fdivP]
    omega
  rw [← e]
  exact h

theorem low29 (n : Int) (hn : In n) : Ret Try.prog 69 [.int .i64 n, .int .i64 (29 : Nat)] (.int .i64 (lowF n 29)) := by
  have h := retV (val := fun _ => n) (F := []) holds_nil tabNil rfl rfl (f := 69) (args := [.sx .i64 (.a 0), .v (.int .i64 (.ofNat 29))]) (v := .sx .i64 (.wrap .i64 (.shr (.wrap .u64 (.shl (.wrap .u64 (.a 0)) 35)) 35))) (by kernel_rfl) (by kernel_rfl) (by kernel_rfl)
  simp only [concs, conc] at h
  have e : (SX.eval (fun _ => n) (.wrap .i64 (.shr (.wrap .u64 (.shl (.wrap .u64 (.a 0)) 35)) 35))) = lowF n 29 := by
    obtain ⟨h1, h2⟩ := hn
    simp only [SX.eval, lowF, wrapU, wrapI, fdivP]
    omega
  rw [← e]
  exact h

theorem sign30 (n : Int) (hn : In n) : Ret Try.prog 37 [.int .i64 n, .int .i64 (30 : Nat)] (.int .i64 (sgnF n 30)) := by
  have h := retV (val := fun _ => n) (F := []) holds_nil tabNil rfl rfl (f := 37) (args := [.sx .i64 (.a 0), .v (.int .i64 (.ofNat 30))]) (v := .sx .i64 (.shr (.wrap .i64 (.wrap .u64 (.shl (.wrap .u64 (.a 0)) 34))) 34)) (by kernel_rfl) (by kernel_rfl) (by kernel_rfl)
  simp only [concs, conc] at h
  have e : (SX.eval (fun _ => n) (.shr (.wrap .i64 (.wrap .u64 (.shl (.wrap .u64 (.a 0)) 34))) 34)) = sgnF n 30 := by
    obtain ⟨h1, h2⟩ := hn
    simp only [SX.eval, sgnF, wrapU, wrapI, fdivP]
    omega
  rw [← e]
  exact h

theorem low30 (n : Int) (hn : In n) : Ret Try.prog 69 [.int .i64 n, .int .i64 (30 : Nat)] (.int .i64 (lowF n 30)) := by
  have h := retV (val := fun _ => n) (F := []) holds_nil tabNil rfl rfl (f := 69) (args := [.sx .i64 (.a 0), .v (.int .i64 (.ofNat 30))]) (v := .sx .i64 (.wrap .i64 (.shr (.wrap .u64 (.shl (.wrap .u64 (.a 0)) 34)) 34))) (by kernel_rfl) (by kernel_rfl) (by kernel_rfl)
  simp only [concs, conc] at h
  have e : (SX.eval (fun _ => n) (.wrap .i64 (.shr (.wrap .u64 (.shl (.wrap .u64 (.a 0)) 34)) 34))) = lowF n 30 := by
    obtain ⟨h1, h2⟩ := hn
    simp only [SX.eval, lowF, wrapU, wrapI, fdivP]
    omega
  rw [← e]
  exact h

theorem sign31 (n : Int) (hn : In n) : Ret Try.prog 37 [.int .i64 n, .int .i64 (31 : Nat)] (.int .i64 (sgnF n 31)) := by
  have h := retV (val := fun _ => n) (F := []) holds_nil tabNil rfl rfl (f := 37) (args := [.sx .i64 (.a 0), .v (.int .i64 (.ofNat 31))]) (v := .sx .i64 (.shr (.wrap .i64 (.wrap .u64 (.shl (.wrap .u64 (.a 0)) 33))) 33)) (by kernel_rfl) (by kernel_rfl) (by kernel_rfl)
  simp only [concs, conc] at h
  have e : (SX.eval (fun _ => n) (.shr (.wrap .i64 (.wrap .u64 (.shl (.wrap .u64 (.a 0)) 33))) 33)) = sgnF n 31 := by
    obtain ⟨h1, h2⟩ := hn
    simp only [SX.eval, sgnF, wrapU, wrapI, fdivP]
    omega
  rw [← e]
  exact h

theorem low31 (n : Int) (hn : In n) : Ret Try.prog 69 [.int .i64 n, .int .i64 (31 : Nat)] (.int .i64 (lowF n 31)) := by
  have h := retV (val := fun _ => n) (F := []) holds_nil tabNil rfl rfl (f := 69) (args := [.sx .i64 (.a 0), .v (.int .i64 (.ofNat 31))]) (v := .sx .i64 (.wrap .i64 (.shr (.wrap .u64 (.shl (.wrap .u64 (.a 0)) 33)) 33))) (by kernel_rfl) (by kernel_rfl) (by kernel_rfl)
  simp only [concs, conc] at h
  have e : (SX.eval (fun _ => n) (.wrap .i64 (.shr (.wrap .u64 (.shl (.wrap .u64 (.a 0)) 33)) 33))) = lowF n 31 := by
    obtain ⟨h1, h2⟩ := hn
    simp only [SX.eval, lowF, wrapU, wrapI, fdivP]
    omega
  rw [← e]
  exact h

theorem sign32 (n : Int) (hn : In n) : Ret Try.prog 37 [.int .i64 n, .int .i64 (32 : Nat)] (.int .i64 (sgnF n 32)) := by
  have h := retV (val := fun _ => n) (F := []) holds_nil tabNil rfl rfl (f := 37) (args := [.sx .i64 (.a 0), .v (.int .i64 (.ofNat 32))]) (v := .sx .i64 (.shr (.wrap .i64 (.wrap .u64 (.shl (.wrap .u64 (.a 0)) 32))) 32)) (by kernel_rfl) (by kernel_rfl) (by kernel_rfl)
  simp only [concs, conc] at h
  have e : (SX.eval (fun _ => n) (.shr (.wrap .i64 (.wrap .u64 (.shl (.wrap .u64 (.a 0)) 32))) 32)) = sgnF n 32 := by
    obtain ⟨h1, h2⟩ := hn
    simp only [SX.eval, sgnF, wrapU, wrapI, fdivP]
    omega
  rw [← e]
  exact h

theorem low32 (n : Int) (hn : In n) : Ret Try.prog 69 [.int .i64 n, .int .i64 (32 : Nat)] (.int .i64 (lowF n 32)) := by
  have h := retV (val := fun _ => n) (F := []) holds_nil tabNil rfl rfl (f := 69) (args := [.sx .i64 (.a 0), .v (.int .i64 (.ofNat 32))]) (v := .sx .i64 (.wrap .i64 (.shr (.wrap .u64 (.shl (.wrap .u64 (.a 0)) 32)) 32))) (by kernel_rfl) (by kernel_rfl) (by kernel_rfl)
  simp only [concs, conc] at h
  have e : (SX.eval (fun _ => n) (.wrap .i64 (.shr (.wrap .u64 (.shl (.wrap .u64 (.a 0)) 32)) 32))) = lowF n 32 := by
    obtain ⟨h1, h2⟩ := hn
    simp only [SX.eval, lowF, wrapU, wrapI, fdivP]
    omega
  rw [← e]
  exact h

end Go.Proofs.Ytbenfglhomiocaa.Fld
