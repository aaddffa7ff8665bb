/-
  What the document's Low, Sign, Fits and Wide do, by widths.
-/
import Derived.Test.YtclgmeoofmidfaaFldQ
import Derived.Test.YtclgmeoofmidfaaFldP
namespace Go.Proofs.Ytclgmeoofmidfaa.Fld
open Go.Sim
set_option maxRecDepth 100000

theorem rlow49 (n : Int) (hn : In n) : Ret Try.prog 23 [.int .i64 n, .int .i64 (49 : Nat)] (.int .i64 (lowF n 49)) := by
  have h := retV (val := fun _ => n) (F := []) holds_nil tabNil rfl rfl (f := 23) (args := [.sx .i64 (.a 0), (.v (.int .i64 (.ofNat 49)))]) (v := .sx .i64 (chain 49)) (by kernel_rfl) (by kernel_rfl) (by kernel_rfl)
  simp only [concs, conc, chain_eval _ 49 (by omega)] at h
  have e : IntKind.i64.wrap (n % 2 ^ 49) = lowF n 49 := by
    obtain ⟨h1, h2⟩ := hn
    simp only [wrapI, lowF]
    omega
  rw [← e]
  exact h

theorem rlt49 (n : Int) (hn : In n) : TabOK Try.prog (fun j => [n, lowF n 49].getD j 0) sl0 [(23, [.sx .i64 (.a 0), (.v (.int .i64 (.ofNat 49)))], .sx .i64 (.a 1))] := by
  intro x hx
  simp only [List.mem_cons, List.not_mem_nil, or_false] at hx
  subst hx
  exact rlow49 n hn

theorem rsign49 (n : Int) (hn : In n) : Ret Try.prog 21 [.int .i64 n, .int .i64 (49 : Nat)] (.int .i64 (sgnF n 49)) := by
  have hb : (SX.eval (fun j => [n, lowF n 49].getD j 0) (.and .i64 (.shr (.a 1) 48) (.c 1))) = lowF n 49 / 2 ^ 48 % 2 := by
    show IntKind.i64.wrap (BitVec.ofInt IntKind.i64.bits ((lowF n 49).fdiv (2 ^ 48)) &&& BitVec.ofInt IntKind.i64.bits 1).toNat = _
    rw [andOne, fdivP]
  obtain ⟨h1, h2⟩ := id hn
  by_cases hc : lowF n 49 / 2 ^ 48 % 2 = 1
  · have hh : Holds (fun j => [n, lowF n 49].getD j 0) [.is (.and .i64 (.shr (.a 1) 48) (.c 1)) 1] := holds_cons (hb.trans hc) holds_nil
    have h := retV hh (rlt49 n hn) (by kernel_rfl) (by kernel_rfl) (f := 21) (args := [.sx .i64 (.a 0), (.v (.int .i64 (.ofNat 49)))]) (v := .sx .i64 (.wrap .i64 (.sub (.a 1) (.c 562949953421312)))) (by kernel_rfl) (by kernel_rfl) (by kernel_rfl)
    have e : IntKind.i64.wrap (lowF n 49 - 562949953421312) = sgnF n 49 := by
      simp only [wrapI, lowF, sgnF] at hc ⊢
      omega
    rw [← e]
    exact h
  · have hh : Holds (fun j => [n, lowF n 49].getD j 0) [.ne (.and .i64 (.shr (.a 1) 48) (.c 1)) 1] := holds_cons (by show _ ≠ _; rw [hb]; exact hc) holds_nil
    have h := retV hh (rlt49 n hn) (by kernel_rfl) (by kernel_rfl) (f := 21) (args := [.sx .i64 (.a 0), (.v (.int .i64 (.ofNat 49)))]) (v := .sx .i64 (.a 1)) (by kernel_rfl) (by kernel_rfl) (by kernel_rfl)
    have e : lowF n 49 = sgnF n 49 := by
      simp only [lowF, sgnF] at hc ⊢
      omega
    rw [← e]
    exact h

theorem rfits49 (n : Int) (hn : In n) : Ret Try.prog 17 [.int .i64 n, .int .i64 (49 : Nat)] (.bool (sgnF n 49 == n)) := by
  have hb : (SX.eval (fun _ => n) (.shr (.a 0) 48)) = n / 2 ^ 48 := by show n.fdiv (2 ^ 48) = _; rw [fdivP]
  have p := (pl49 n hn).fit
  obtain ⟨h1, h2⟩ := id hn
  by_cases hc : n / 2 ^ 48 = 0
  · have hh : Holds (fun _ => n) [.is (.shr (.a 0) 48) 0] := holds_cons (hb.trans hc) holds_nil
    have h := retV hh tabNil rfl rfl (f := 17) (args := [.sx .i64 (.a 0), (.v (.int .i64 (.ofNat 49)))]) (v := .v (.bool true)) (by kernel_rfl) (by kernel_rfl) (by kernel_rfl)
    have e : (sgnF n 49 == n) = true := by
      rw [beq_iff_eq, p]
      simp only [Nat.reduceSub] at *
      omega
    rw [e]
    exact h
  · have hh : Holds (fun _ => n) [.ne (.shr (.a 0) 48) 0] := holds_cons (by show _ ≠ _; rw [hb]; exact hc) holds_nil
    have h := retV hh tabNil rfl rfl (f := 17) (args := [.sx .i64 (.a 0), (.v (.int .i64 (.ofNat 49)))]) (v := .sb (.eq (.shr (.a 0) 48) (.c (-1)))) (by kernel_rfl) (by kernel_rfl) (by kernel_rfl)
    have e : (sgnF n 49 == n) = (n.fdiv (2 ^ 48) == -1) := by
      rw [Bool.eq_iff_iff, beq_iff_eq, beq_iff_eq, p, fdivP]
      simp only [Nat.reduceSub] at *
      omega
    rw [e]
    exact h

theorem rft49 (n : Int) (hn : In n) {b : Bool} (h : (sgnF n 49 == n) = b) : TabOK Try.prog (fun _ => n) sl0 [(17, [.sx .i64 (.a 0), (.v (.int .i64 (.ofNat 49)))], .v (.bool b))] := by
  intro x hx
  simp only [List.mem_cons, List.not_mem_nil, or_false] at hx
  subst hx
  subst h
  exact rfits49 n hn

theorem rwide49 (n : Int) (hn : In n) : Ret Try.prog 19 [.int .i64 n, .int .i64 (49 : Nat)] (.bool (sgnF n 49 == n || lowF n 49 == n)) := by
  cases hf : (sgnF n 49 == n) with
  | true =>
    have h := retV (val := fun _ => n) (F := []) holds_nil (rft49 n hn hf) (by kernel_rfl) (by kernel_rfl) (f := 19) (args := [.sx .i64 (.a 0), (.v (.int .i64 (.ofNat 49)))]) (v := .v (.bool true)) (by kernel_rfl) (by kernel_rfl) (by kernel_rfl)
    exact h
  | false =>
    have p := (pl49 n hn).fit
    rw [beq_eq_false_iff_ne] at hf
    obtain ⟨h1, h2⟩ := id hn
    have pl := (pl49 n hn).low
    by_cases hc : 1 ≤ n
    · have hh : Holds (fun _ => n) [.ge (.a 0) 1] := holds_cons hc holds_nil
      have h := retV hh (rft49 n hn (beq_eq_false_iff_ne.2 hf)) (by kernel_rfl) (by kernel_rfl) (f := 19) (args := [.sx .i64 (.a 0), (.v (.int .i64 (.ofNat 49)))]) (v := .sb (.eq (.shr (.a 0) 49) (.c 0))) (by kernel_rfl) (by kernel_rfl) (by kernel_rfl)
      have e : (false || lowF n 49 == n) = (n.fdiv (2 ^ 49) == 0) := by
        rw [Bool.false_or, Bool.eq_iff_iff, beq_iff_eq, beq_iff_eq, pl, fdivP]
        omega
      rw [e]
      exact h
    · have hh : Holds (fun _ => n) [.le (.a 0) 0] := holds_cons (show n ≤ 0 by omega) holds_nil
      have h := retV hh (rft49 n hn (beq_eq_false_iff_ne.2 hf)) (by kernel_rfl) (by kernel_rfl) (f := 19) (args := [.sx .i64 (.a 0), (.v (.int .i64 (.ofNat 49)))]) (v := .v (.bool false)) (by kernel_rfl) (by kernel_rfl) (by kernel_rfl)
      have e : (false || lowF n 49 == n) = false := by
        rw [Bool.false_or, beq_eq_false_iff_ne]
        intro hl
        rw [pl] at hl
        simp only [Nat.reduceSub] at *
        apply hf
        rw [p]
        omega
      rw [e]
      exact h

theorem rlow50 (n : Int) (hn : In n) : Ret Try.prog 23 [.int .i64 n, .int .i64 (50 : Nat)] (.int .i64 (lowF n 50)) := by
  have h := retV (val := fun _ => n) (F := []) holds_nil tabNil rfl rfl (f := 23) (args := [.sx .i64 (.a 0), (.v (.int .i64 (.ofNat 50)))]) (v := .sx .i64 (chain 50)) (by kernel_rfl) (by kernel_rfl) (by kernel_rfl)
  simp only [concs, conc, chain_eval _ 50 (by omega)] at h
  have e : IntKind.i64.wrap (n % 2 ^ 50) = lowF n 50 := by
    obtain ⟨h1, h2⟩ := hn
    simp only [wrapI, lowF]
    omega
  rw [← e]
  exact h

theorem rlt50 (n : Int) (hn : In n) : TabOK Try.prog (fun j => [n, lowF n 50].getD j 0) sl0 [(23, [.sx .i64 (.a 0), (.v (.int .i64 (.ofNat 50)))], .sx .i64 (.a 1))] := by
  intro x hx
  simp only [List.mem_cons, List.not_mem_nil, or_false] at hx
  subst hx
  exact rlow50 n hn

theorem rsign50 (n : Int) (hn : In n) : Ret Try.prog 21 [.int .i64 n, .int .i64 (50 : Nat)] (.int .i64 (sgnF n 50)) := by
  have hb : (SX.eval (fun j => [n, lowF n 50].getD j 0) (.and .i64 (.shr (.a 1) 49) (.c 1))) = lowF n 50 / 2 ^ 49 % 2 := by
    show IntKind.i64.wrap (BitVec.ofInt IntKind.i64.bits ((lowF n 50).fdiv (2 ^ 49)) &&& BitVec.ofInt IntKind.i64.bits 1).toNat = _
    rw [andOne, fdivP]
  obtain ⟨h1, h2⟩ := id hn
  by_cases hc : lowF n 50 / 2 ^ 49 % 2 = 1
  · have hh : Holds (fun j => [n, lowF n 50].getD j 0) [.is (.and .i64 (.shr (.a 1) 49) (.c 1)) 1] := holds_cons (hb.trans hc) holds_nil
    have h := retV hh (rlt50 n hn) (by kernel_rfl) (by kernel_rfl) (f := 21) (args := [.sx .i64 (.a 0), (.v (.int .i64 (.ofNat 50)))]) (v := .sx .i64 (.wrap .i64 (.sub (.a 1) (.c 1125899906842624)))) (by kernel_rfl) (by kernel_rfl) (by kernel_rfl)
    have e : IntKind.i64.wrap (lowF n 50 - 1125899906842624) = sgnF n 50 := by
      simp only [wrapI, lowF, sgnF] at hc ⊢
      omega
    rw [← e]
    exact h
  · have hh : Holds (fun j => [n, lowF n 50].getD j 0) [.ne (.and .i64 (.shr (.a 1) 49) (.c 1)) 1] := holds_cons (by show _ ≠ _; rw [hb]; exact hc) holds_nil
    have h := retV hh (rlt50 n hn) (by kernel_rfl) (by kernel_rfl) (f := 21) (args := [.sx .i64 (.a 0), (.v (.int .i64 (.ofNat 50)))]) (v := .sx .i64 (.a 1)) (by kernel_rfl) (by kernel_rfl) (by kernel_rfl)
    have e : lowF n 50 = sgnF n 50 := by
      simp only [lowF, sgnF] at hc ⊢
      omega
    rw [← e]
    exact h

theorem rfits50 (n : Int) (hn : In n) : Ret Try.prog 17 [.int .i64 n, .int .i64 (50 : Nat)] (.bool (sgnF n 50 == n)) := by
  have hb : (SX.eval (fun _ => n) (.shr (.a 0) 49)) = n / 2 ^ 49 := by show n.fdiv (2 ^ 49) = _; rw [fdivP]
  have p := (pl50 n hn).fit
  obtain ⟨h1, h2⟩ := id hn
  by_cases hc : n / 2 ^ 49 = 0
  · have hh : Holds (fun _ => n) [.is (.shr (.a 0) 49) 0] := holds_cons (hb.trans hc) holds_nil
    have h := retV hh tabNil rfl rfl (f := 17) (args := [.sx .i64 (.a 0), (.v (.int .i64 (.ofNat 50)))]) (v := .v (.bool true)) (by kernel_rfl) (by kernel_rfl) (by kernel_rfl)
    have e : (sgnF n 50 == n) = true := by
      rw [beq_iff_eq, p]
      simp only [Nat.reduceSub] at *
      omega
    rw [e]
    exact h
  · have hh : Holds (fun _ => n) [.ne (.shr (.a 0) 49) 0] := holds_cons (by show _ ≠ _; rw [hb]; exact hc) holds_nil
    have h := retV hh tabNil rfl rfl (f := 17) (args := [.sx .i64 (.a 0), (.v (.int .i64 (.ofNat 50)))]) (v := .sb (.eq (.shr (.a 0) 49) (.c (-1)))) (by kernel_rfl) (by kernel_rfl) (by kernel_rfl)
    have e : (sgnF n 50 == n) = (n.fdiv (2 ^ 49) == -1) := by
      rw [Bool.eq_iff_iff, beq_iff_eq, beq_iff_eq, p, fdivP]
      simp only [Nat.reduceSub] at *
      omega
    rw [e]
    exact h

theorem rft50 (n : Int) (hn : In n) {b : Bool} (h : (sgnF n 50 == n) = b) : TabOK Try.prog (fun _ => n) sl0 [(17, [.sx .i64 (.a 0), (.v (.int .i64 (.ofNat 50)))], .v (.bool b))] := by
  intro x hx
  simp only [List.mem_cons, List.not_mem_nil, or_false] at hx
  subst hx
  subst h
  exact rfits50 n hn

theorem rwide50 (n : Int) (hn : In n) : Ret Try.prog 19 [.int .i64 n, .int .i64 (50 : Nat)] (.bool (sgnF n 50 == n || lowF n 50 == n)) := by
  cases hf : (sgnF n 50 == n) with
  | true =>
    have h := retV (val := fun _ => n) (F := []) holds_nil (rft50 n hn hf) (by kernel_rfl) (by kernel_rfl) (f := 19) (args := [.sx .i64 (.a 0), (.v (.int .i64 (.ofNat 50)))]) (v := .v (.bool true)) (by kernel_rfl) (by kernel_rfl) (by kernel_rfl)
    exact h
  | false =>
    have p := (pl50 n hn).fit
    rw [beq_eq_false_iff_ne] at hf
    obtain ⟨h1, h2⟩ := id hn
    have pl := (pl50 n hn).low
    by_cases hc : 1 ≤ n
    · have hh : Holds (fun _ => n) [.ge (.a 0) 1] := holds_cons hc holds_nil
      have h := retV hh (rft50 n hn (beq_eq_false_iff_ne.2 hf)) (by kernel_rfl) (by kernel_rfl) (f := 19) (args := [.sx .i64 (.a 0), (.v (.int .i64 (.ofNat 50)))]) (v := .sb (.eq (.shr (.a 0) 50) (.c 0))) (by kernel_rfl) (by kernel_rfl) (by kernel_rfl)
      have e : (false || lowF n 50 == n) = (n.fdiv (2 ^ 50) == 0) := by
        rw [Bool.false_or, Bool.eq_iff_iff, beq_iff_eq, beq_iff_eq, pl, fdivP]
        omega
      rw [e]
      exact h
    · have hh : Holds (fun _ => n) [.le (.a 0) 0] := holds_cons (show n ≤ 0 by omega) holds_nil
      have h := retV hh (rft50 n hn (beq_eq_false_iff_ne.2 hf)) (by kernel_rfl) (by kernel_rfl) (f := 19) (args := [.sx .i64 (.a 0), (.v (.int .i64 (.ofNat 50)))]) (v := .v (.bool false)) (by kernel_rfl) (by kernel_rfl) (by kernel_rfl)
      have e : (false || lowF n 50 == n) = false := by
        rw [Bool.false_or, beq_eq_false_iff_ne]
        intro hl
        rw [pl] at hl
        simp only [Nat.reduceSub] at *
        apply hf
        rw [p]
        omega
      rw [e]
      exact h

theorem rlow51 (n : Int) (hn : In n) : Ret Try.prog 23 [.int .i64 n, .int .i64 (51 : Nat)] (.int .i64 (lowF n 51)) := by
  have h := retV (val := fun _ => n) (F := []) holds_nil tabNil rfl rfl (f := 23) (args := [.sx .i64 (.a 0), (.v (.int .i64 (.ofNat 51)))]) (v := .sx .i64 (chain 51)) (by kernel_rfl) (by kernel_rfl) (by kernel_rfl)
  simp only [concs, conc, chain_eval _ 51 (by omega)] at h
  have e : IntKind.i64.wrap (n % 2 ^ 51) = lowF n 51 := by
    obtain ⟨h1, h2⟩ := hn
    simp only [wrapI, lowF]
    omega
  rw [← e]
  exact h

theorem rlt51 (n : Int) (hn : In n) : TabOK Try.prog (fun j => [n, lowF n 51].getD j 0) sl0 [(23, [.sx .i64 (.a 0), (.v (.int .i64 (.ofNat 51)))], .sx .i64 (.a 1))] := by
  intro x hx
  simp only [List.mem_cons, List.not_mem_nil, or_false] at hx
  subst hx
  exact rlow51 n hn

theorem rsign51 (n : Int) (hn : In n) : Ret Try.prog 21 [.int .i64 n, .int .i64 (51 : Nat)] (.int .i64 (sgnF n 51)) := by
  have hb : (SX.eval (fun j => [n, lowF n 51].getD j 0) (.and .i64 (.shr (.a 1) 50) (.c 1))) = lowF n 51 / 2 ^ 50 % 2 := by
    show IntKind.i64.wrap (BitVec.ofInt IntKind.i64.bits ((lowF n 51).fdiv (2 ^ 50)) &&& BitVec.ofInt IntKind.i64.bits 1).toNat = _
    rw [andOne, fdivP]
  obtain ⟨h1, h2⟩ := id hn
  by_cases hc : lowF n 51 / 2 ^ 50 % 2 = 1
  · have hh : Holds (fun j => [n, lowF n 51].getD j 0) [.is (.and .i64 (.shr (.a 1) 50) (.c 1)) 1] := holds_cons (hb.trans hc) holds_nil
    have h := retV hh (rlt51 n hn) (by kernel_rfl) (by kernel_rfl) (f := 21) (args := [.sx .i64 (.a 0), (.v (.int .i64 (.ofNat 51)))]) (v := .sx .i64 (.wrap .i64 (.sub (.a 1) (.c 2251799813685248)))) (by kernel_rfl) (by kernel_rfl) (by kernel_rfl)
    have e : IntKind.i64.wrap (lowF n 51 - 2251799813685248) = sgnF n 51 := by
      simp only [wrapI, lowF, sgnF] at hc ⊢
      omega
    rw [← e]
    exact h
  · have hh : Holds (fun j => [n, lowF n 51].getD j 0) [.ne (.and .i64 (.shr (.a 1) 50) (.c 1)) 1] := holds_cons (by show _ ≠ _; rw [hb]; exact hc) holds_nil
    have h := retV hh (rlt51 n hn) (by kernel_rfl) (by kernel_rfl) (f := 21) (args := [.sx .i64 (.a 0), (.v (.int .i64 (.ofNat 51)))]) (v := .sx .i64 (.a 1)) (by kernel_rfl) (by kernel_rfl) (by kernel_rfl)
    have e : lowF n 51 = sgnF n 51 := by
      simp only [lowF, sgnF] at hc ⊢
      omega
    rw [← e]
    exact h

theorem rfits51 (n : Int) (hn : In n) : Ret Try.prog 17 [.int .i64 n, .int .i64 (51 : Nat)] (.bool (sgnF n 51 == n)) := by
  have hb : (SX.eval (fun _ => n) (.shr (.a 0) 50)) = n / 2 ^ 50 := by show n.fdiv (2 ^ 50) = _; rw [fdivP]
  have p := (pl51 n hn).fit
  obtain ⟨h1, h2⟩ := id hn
  by_cases hc : n / 2 ^ 50 = 0
  · have hh : Holds (fun _ => n) [.is (.shr (.a 0) 50) 0] := holds_cons (hb.trans hc) holds_nil
    have h := retV hh tabNil rfl rfl (f := 17) (args := [.sx .i64 (.a 0), (.v (.int .i64 (.ofNat 51)))]) (v := .v (.bool true)) (by kernel_rfl) (by kernel_rfl) (by kernel_rfl)
    have e : (sgnF n 51 == n) = true := by
      rw [beq_iff_eq, p]
      simp only [Nat.reduceSub] at *
      omega
    rw [e]
    exact h
  · have hh : Holds (fun _ => n) [.ne (.shr (.a 0) 50) 0] := holds_cons (by show _ ≠ _; rw [hb]; exact hc) holds_nil
    have h := retV hh tabNil rfl rfl (f := 17) (args := [.sx .i64 (.a 0), (.v (.int .i64 (.ofNat 51)))]) (v := .sb (.eq (.shr (.a 0) 50) (.c (-1)))) (by kernel_rfl) (by kernel_rfl) (by kernel_rfl)
    have e : (sgnF n 51 == n) = (n.fdiv (2 ^ 50) == -1) := by
      rw [Bool.eq_iff_iff, beq_iff_eq, beq_iff_eq, p, fdivP]
      simp only [Nat.reduceSub] at *
      omega
    rw [e]
    exact h

theorem rft51 (n : Int) (hn : In n) {b : Bool} (h : (sgnF n 51 == n) = b) : TabOK Try.prog (fun _ => n) sl0 [(17, [.sx .i64 (.a 0), (.v (.int .i64 (.ofNat 51)))], .v (.bool b))] := by
  intro x hx
  simp only [List.mem_cons, List.not_mem_nil, or_false] at hx
  subst hx
  subst h
  exact rfits51 n hn

theorem rwide51 (n : Int) (hn : In n) : Ret Try.prog 19 [.int .i64 n, .int .i64 (51 : Nat)] (.bool (sgnF n 51 == n || lowF n 51 == n)) := by
  cases hf : (sgnF n 51 == n) with
  | true =>
    have h := retV (val := fun _ => n) (F := []) holds_nil (rft51 n hn hf) (by kernel_rfl) (by kernel_rfl) (f := 19) (args := [.sx .i64 (.a 0), (.v (.int .i64 (.ofNat 51)))]) (v := .v (.bool true)) (by kernel_rfl) (by kernel_rfl) (by kernel_rfl)
    exact h
  | false =>
    have p := (pl51 n hn).fit
    rw [beq_eq_false_iff_ne] at hf
    obtain ⟨h1, h2⟩ := id hn
    have pl := (pl51 n hn).low
    by_cases hc : 1 ≤ n
    · have hh : Holds (fun _ => n) [.ge (.a 0) 1] := holds_cons hc holds_nil
      have h := retV hh (rft51 n hn (beq_eq_false_iff_ne.2 hf)) (by kernel_rfl) (by kernel_rfl) (f := 19) (args := [.sx .i64 (.a 0), (.v (.int .i64 (.ofNat 51)))]) (v := .sb (.eq (.shr (.a 0) 51) (.c 0))) (by kernel_rfl) (by kernel_rfl) (by kernel_rfl)
      have e : (false || lowF n 51 == n) = (n.fdiv (2 ^ 51) == 0) := by
        rw [Bool.false_or, Bool.eq_iff_iff, beq_iff_eq, beq_iff_eq, pl, fdivP]
        omega
      rw [e]
      exact h
    · have hh : Holds (fun _ => n) [.le (.a 0) 0] := holds_cons (show n ≤ 0 by omega) holds_nil
      have h := retV hh (rft51 n hn (beq_eq_false_iff_ne.2 hf)) (by kernel_rfl) (by kernel_rfl) (f := 19) (args := [.sx .i64 (.a 0), (.v (.int .i64 (.ofNat 51)))]) (v := .v (.bool false)) (by kernel_rfl) (by kernel_rfl) (by kernel_rfl)
      have e : (false || lowF n 51 == n) = false := by
        rw [Bool.false_or, beq_eq_false_iff_ne]
        intro hl
        rw [pl] at hl
        simp only [Nat.reduceSub] at *
        apply hf
        rw [p]
        omega
      rw [e]
      exact h

theorem rlow52 (n : Int) (hn : In n) : Ret Try.prog 23 [.int .i64 n, .int .i64 (52 : Nat)] (.int .i64 (lowF n 52)) := by
  have h := retV (val := fun _ => n) (F := []) holds_nil tabNil rfl rfl (f := 23) (args := [.sx .i64 (.a 0), (.v (.int .i64 (.ofNat 52)))]) (v := .sx .i64 (chain 52)) (by kernel_rfl) (by kernel_rfl) (by kernel_rfl)
  simp only [concs, conc, chain_eval _ 52 (by omega)] at h
  have e : IntKind.i64.wrap (n % 2 ^ 52) = lowF n 52 := by
    obtain ⟨h1, h2⟩ := hn
    simp only [wrapI, lowF]
    omega
  rw [← e]
  exact h

theorem rlt52 (n : Int) (hn : In n) : TabOK Try.prog (fun j => [n, lowF n 52].getD j 0) sl0 [(23, [.sx .i64 (.a 0), (.v (.int .i64 (.ofNat 52)))], .sx .i64 (.a 1))] := by
  intro x hx
  simp only [List.mem_cons, List.not_mem_nil, or_false] at hx
  subst hx
  exact rlow52 n hn

theorem rsign52 (n : Int) (hn : In n) : Ret Try.prog 21 [.int .i64 n, .int .i64 (52 : Nat)] (.int .i64 (sgnF n 52)) := by
  have hb : (SX.eval (fun j => [n, lowF n 52].getD j 0) (.and .i64 (.shr (.a 1) 51) (.c 1))) = lowF n 52 / 2 ^ 51 % 2 := by
    show IntKind.i64.wrap (BitVec.ofInt IntKind.i64.bits ((lowF n 52).fdiv (2 ^ 51)) &&& BitVec.ofInt IntKind.i64.bits 1).toNat = _
    rw [andOne, fdivP]
  obtain ⟨h1, h2⟩ := id hn
  by_cases hc : lowF n 52 / 2 ^ 51 % 2 = 1
  · have hh : Holds (fun j => [n, lowF n 52].getD j 0) [.is (.and .i64 (.shr (.a 1) 51) (.c 1)) 1] := holds_cons (hb.trans hc) holds_nil
    have h := retV hh (rlt52 n hn) (by kernel_rfl) (by kernel_rfl) (f := 21) (args := [.sx .i64 (.a 0), (.v (.int .i64 (.ofNat 52)))]) (v := .sx .i64 (.wrap .i64 (.sub (.a 1) (.c 4503599627370496)))) (by kernel_rfl) (by kernel_rfl) (by kernel_rfl)
    have e : IntKind.i64.wrap (lowF n 52 - 4503599627370496) = sgnF n 52 := by
      simp only [wrapI, lowF, sgnF] at hc ⊢
      omega
    rw [← e]
    exact h
  · have hh : Holds (fun j => [n, lowF n 52].getD j 0) [.ne (.and .i64 (.shr (.a 1) 51) (.c 1)) 1] := holds_cons (by show _ ≠ _; rw [hb]; exact hc) holds_nil
    have h := retV hh (rlt52 n hn) (by kernel_rfl) (by kernel_rfl) (f := 21) (args := [.sx .i64 (.a 0), (.v (.int .i64 (.ofNat 52)))]) (v := .sx .i64 (.a 1)) (by kernel_rfl) (by kernel_rfl) (by kernel_rfl)
    have e : lowF n 52 = sgnF n 52 := by
      simp only [lowF, sgnF] at hc ⊢
      omega
    rw [← e]
    exact h

theorem rfits52 (n : Int) (hn : In n) : Ret Try.prog 17 [.int .i64 n, .int .i64 (52 : Nat)] (.bool (sgnF n 52 == n)) := by
  have hb : (SX.eval (fun _ => n) (.shr (.a 0) 51)) = n / 2 ^ 51 := by show n.fdiv (2 ^ 51) = _; rw [fdivP]
  have p := (pl52 n hn).fit
  obtain ⟨h1, h2⟩ := id hn
  by_cases hc : n / 2 ^ 51 = 0
  · have hh : Holds (fun _ => n) [.is (.shr (.a 0) 51) 0] := holds_cons (hb.trans hc) holds_nil
    have h := retV hh tabNil rfl rfl (f := 17) (args := [.sx .i64 (.a 0), (.v (.int .i64 (.ofNat 52)))]) (v := .v (.bool true)) (by kernel_rfl) (by kernel_rfl) (by kernel_rfl)
    have e : (sgnF n 52 == n) = true := by
      rw [beq_iff_eq, p]
      simp only [Nat.reduceSub] at *
      omega
    rw [e]
    exact h
  · have hh : Holds (fun _ => n) [.ne (.shr (.a 0) 51) 0] := holds_cons (by show _ ≠ _; rw [hb]; exact hc) holds_nil
    have h := retV hh tabNil rfl rfl (f := 17) (args := [.sx .i64 (.a 0), (.v (.int .i64 (.ofNat 52)))]) (v := .sb (.eq (.shr (.a 0) 51) (.c (-1)))) (by kernel_rfl) (by kernel_rfl) (by kernel_rfl)
    have e : (sgnF n 52 == n) = (n.fdiv (2 ^ 51) == -1) := by
      rw [Bool.eq_iff_iff, beq_iff_eq, beq_iff_eq, p, fdivP]
      simp only [Nat.reduceSub] at *
      omega
    rw [e]
    exact h

theorem rft52 (n : Int) (hn : In n) {b : Bool} (h : (sgnF n 52 == n) = b) : TabOK Try.prog (fun _ => n) sl0 [(17, [.sx .i64 (.a 0), (.v (.int .i64 (.ofNat 52)))], .v (.bool b))] := by
  intro x hx
  simp only [List.mem_cons, List.not_mem_nil, or_false] at hx
  subst hx
  subst h
  exact rfits52 n hn

theorem rwide52 (n : Int) (hn : In n) : Ret Try.prog 19 [.int .i64 n, .int .i64 (52 : Nat)] (.bool (sgnF n 52 == n || lowF n 52 == n)) := by
  cases hf : (sgnF n 52 == n) with
  | true =>
    have h := retV (val := fun _ => n) (F := []) holds_nil (rft52 n hn hf) (by kernel_rfl) (by kernel_rfl) (f := 19) (args := [.sx .i64 (.a 0), (.v (.int .i64 (.ofNat 52)))]) (v := .v (.bool true)) (by kernel_rfl) (by kernel_rfl) (by kernel_rfl)
    exact h
  | false =>
    have p := (pl52 n hn).fit
    rw [beq_eq_false_iff_ne] at hf
    obtain ⟨h1, h2⟩ := id hn
    have pl := (pl52 n hn).low
    by_cases hc : 1 ≤ n
    · have hh : Holds (fun _ => n) [.ge (.a 0) 1] := holds_cons hc holds_nil
      have h := retV hh (rft52 n hn (beq_eq_false_iff_ne.2 hf)) (by kernel_rfl) (by kernel_rfl) (f := 19) (args := [.sx .i64 (.a 0), (.v (.int .i64 (.ofNat 52)))]) (v := .sb (.eq (.shr (.a 0) 52) (.c 0))) (by kernel_rfl) (by kernel_rfl) (by kernel_rfl)
      have e : (false || lowF n 52 == n) = (n.fdiv (2 ^ 52) == 0) := by
        rw [Bool.false_or, Bool.eq_iff_iff, beq_iff_eq, beq_iff_eq, pl, fdivP]
        omega
      rw [e]
      exact h
    · have hh : Holds (fun _ => n) [.le (.a 0) 0] := holds_cons (show n ≤ 0 by omega) holds_nil
      have h := retV hh (rft52 n hn (beq_eq_false_iff_ne.2 hf)) (by kernel_rfl) (by kernel_rfl) (f := 19) (args := [.sx .i64 (.a 0), (.v (.int .i64 (.ofNat 52)))]) (v := .v (.bool false)) (by kernel_rfl) (by kernel_rfl) (by kernel_rfl)
      have e : (false || lowF n 52 == n) = false := by
        rw [Bool.false_or, beq_eq_false_iff_ne]
        intro hl
        rw [pl] at hl
        simp only [Nat.reduceSub] at *
        apply hf
        rw [p]
        omega
      rw [e]
      exact h

theorem rlow53 (n : Int) (hn : In n) : Ret Try.prog 23 [.int .i64 n, .int .i64 (53 : Nat)] (.int .i64 (lowF n 53)) := by
  have h := retV (val := fun _ => n) (F := []) holds_nil tabNil rfl rfl (f := 23) (args := [.sx .i64 (.a 0), (.v (.int .i64 (.ofNat 53)))]) (v := .sx .i64 (chain 53)) (by kernel_rfl) (by kernel_rfl) (by kernel_rfl)
  simp only [concs, conc, chain_eval _ 53 (by omega)] at h
  have e : IntKind.i64.wrap (n % 2 ^ 53) = lowF n 53 := by
    obtain ⟨h1, h2⟩ := hn
    simp only [wrapI, lowF]
    omega
  rw [← e]
  exact h

theorem rlt53 (n : Int) (hn : In n) : TabOK Try.prog (fun j => [n, lowF n 53].getD j 0) sl0 [(23, [.sx .i64 (.a 0), (.v (.int .i64 (.ofNat 53)))], .sx .i64 (.a 1))] := by
  intro x hx
  simp only [List.mem_cons, List.not_mem_nil, or_false] at hx
  subst hx
  exact rlow53 n hn

theorem rsign53 (n : Int) (hn : In n) : Ret Try.prog 21 [.int .i64 n, .int .i64 (53 : Nat)] (.int .i64 (sgnF n 53)) := by
  have hb : (SX.eval (fun j => [n, lowF n 53].getD j 0) (.and .i64 (.shr (.a 1) 52) (.c 1))) = lowF n 53 / 2 ^ 52 % 2 := by
    show IntKind.i64.wrap (BitVec.ofInt IntKind.i64.bits ((lowF n 53).fdiv (2 ^ 52)) &&& BitVec.ofInt IntKind.i64.bits 1).toNat = _
    rw [andOne, fdivP]
  obtain ⟨h1, h2⟩ := id hn
  by_cases hc : lowF n 53 / 2 ^ 52 % 2 = 1
  · have hh : Holds (fun j => [n, lowF n 53].getD j 0) [.is (.and .i64 (.shr (.a 1) 52) (.c 1)) 1] := holds_cons (hb.trans hc) holds_nil
    have h := retV hh (rlt53 n hn) (by kernel_rfl) (by kernel_rfl) (f := 21) (args := [.sx .i64 (.a 0), (.v (.int .i64 (.ofNat 53)))]) (v := .sx .i64 (.wrap .i64 (.sub (.a 1) (.c 9007199254740992)))) (by kernel_rfl) (by kernel_rfl) (by kernel_rfl)
    have e : IntKind.i64.wrap (lowF n 53 - 9007199254740992) = sgnF n 53 := by
      simp only [wrapI, lowF, sgnF] at hc ⊢
      omega
    rw [← e]
    exact h
  · have hh : Holds (fun j => [n, lowF n 53].getD j 0) [.ne (.and .i64 (.shr (.a 1) 52) (.c 1)) 1] := holds_cons (by show _ ≠ _; rw [hb]; exact hc) holds_nil
    have h := retV hh (rlt53 n hn) (by kernel_rfl) (by kernel_rfl) (f := 21) (args := [.sx .i64 (.a 0), (.v (.int .i64 (.ofNat 53)))]) (v := .sx .i64 (.a 1)) (by kernel_rfl) (by kernel_rfl) (by kernel_rfl)
    have e : lowF n 53 = sgnF n 53 := by
      simp only [lowF, sgnF] at hc ⊢
      omega
    rw [← e]
    exact h

theorem rfits53 (n : Int) (hn : In n) : Ret Try.prog 17 [.int .i64 n, .int .i64 (53 : Nat)] (.bool (sgnF n 53 == n)) := by
  have hb : (SX.eval (fun _ => n) (.shr (.a 0) 52)) = n / 2 ^ 52 := by show n.fdiv (2 ^ 52) = _; rw [fdivP]
  have p := (pl53 n hn).fit
  obtain ⟨h1, h2⟩ := id hn
  by_cases hc : n / 2 ^ 52 = 0
  · have hh : Holds (fun _ => n) [.is (.shr (.a 0) 52) 0] := holds_cons (hb.trans hc) holds_nil
    have h := retV hh tabNil rfl rfl (f := 17) (args := [.sx .i64 (.a 0), (.v (.int .i64 (.ofNat 53)))]) (v := .v (.bool true)) (by kernel_rfl) (by kernel_rfl) (by kernel_rfl)
    have e : (sgnF n 53 == n) = true := by
      rw [beq_iff_eq, p]
      simp only [Nat.reduceSub] at *
      omega
    rw [e]
    exact h
  · have hh : Holds (fun _ => n) [.ne (.shr (.a 0) 52) 0] := holds_cons (by show _ ≠ _; rw [hb]; exact hc) holds_nil
    have h := retV hh tabNil rfl rfl (f := 17) (args := [.sx .i64 (.a 0), (.v (.int .i64 (.ofNat 53)))]) (v := .sb (.eq (.shr (.a 0) 52) (.c (-1)))) (by kernel_rfl) (by kernel_rfl) (by kernel_rfl)
    have e : (sgnF n 53 == n) = (n.fdiv (2 ^ 52) == -1) := by
      rw [Bool.eq_iff_iff, beq_iff_eq, beq_iff_eq, p, fdivP]
      simp only [Nat.reduceSub] at *
      omega
    rw [e]
    exact h

theorem rft53 (n : Int) (hn : In n) {b : Bool} (h : (sgnF n 53 == n) = b) : TabOK Try.prog (fun _ => n) sl0 [(17, [.sx .i64 (.a 0), (.v (.int .i64 (.ofNat 53)))], .v (.bool b))] := by
  intro x hx
  simp only [List.mem_cons, List.not_mem_nil, or_false] at hx
  subst hx
  subst h
  exact rfits53 n hn

theorem rwide53 (n : Int) (hn : In n) : Ret Try.prog 19 [.int .i64 n, .int .i64 (53 : Nat)] (.bool (sgnF n 53 == n || lowF n 53 == n)) := by
  cases hf : (sgnF n 53 == n) with
  | true =>
    have h := retV (val := fun _ => n) (F := []) holds_nil (rft53 n hn hf) (by kernel_rfl) (by kernel_rfl) (f := 19) (args := [.sx .i64 (.a 0), (.v (.int .i64 (.ofNat 53)))]) (v := .v (.bool true)) (by kernel_rfl) (by kernel_rfl) (by kernel_rfl)
    exact h
  | false =>
    have p := (pl53 n hn).fit
    rw [beq_eq_false_iff_ne] at hf
    obtain ⟨h1, h2⟩ := id hn
    have pl := (pl53 n hn).low
    by_cases hc : 1 ≤ n
    · have hh : Holds (fun _ => n) [.ge (.a 0) 1] := holds_cons hc holds_nil
      have h := retV hh (rft53 n hn (beq_eq_false_iff_ne.2 hf)) (by kernel_rfl) (by kernel_rfl) (f := 19) (args := [.sx .i64 (.a 0), (.v (.int .i64 (.ofNat 53)))]) (v := .sb (.eq (.shr (.a 0) 53) (.c 0))) (by kernel_rfl) (by kernel_rfl) (by kernel_rfl)
      have e : (false || lowF n 53 == n) = (n.fdiv (2 ^ 53) == 0) := by
        rw [Bool.false_or, Bool.eq_iff_iff, beq_iff_eq, beq_iff_eq, pl, fdivP]
        omega
      rw [e]
      exact h
    · have hh : Holds (fun _ => n) [.le (.a 0) 0] := holds_cons (show n ≤ 0 by omega) holds_nil
      have h := retV hh (rft53 n hn (beq_eq_false_iff_ne.2 hf)) (by kernel_rfl) (by kernel_rfl) (f := 19) (args := [.sx .i64 (.a 0), (.v (.int .i64 (.ofNat 53)))]) (v := .v (.bool false)) (by kernel_rfl) (by kernel_rfl) (by kernel_rfl)
      have e : (false || lowF n 53 == n) = false := by
        rw [Bool.false_or, beq_eq_false_iff_ne]
        intro hl
        rw [pl] at hl
        simp only [Nat.reduceSub] at *
        apply hf
        rw [p]
        omega
      rw [e]
      exact h

theorem rlow54 (n : Int) (hn : In n) : Ret Try.prog 23 [.int .i64 n, .int .i64 (54 : Nat)] (.int .i64 (lowF n 54)) := by
  have h := retV (val := fun _ => n) (F := []) holds_nil tabNil rfl rfl (f := 23) (args := [.sx .i64 (.a 0), (.v (.int .i64 (.ofNat 54)))]) (v := .sx .i64 (chain 54)) (by kernel_rfl) (by kernel_rfl) (by kernel_rfl)
  simp only [concs, conc, chain_eval _ 54 (by omega)] at h
  have e : IntKind.i64.wrap (n % 2 ^ 54) = lowF n 54 := by
    obtain ⟨h1, h2⟩ := hn
    simp only [wrapI, lowF]
    omega
  rw [← e]
  exact h

theorem rlt54 (n : Int) (hn : In n) : TabOK Try.prog (fun j => [n, lowF n 54].getD j 0) sl0 [(23, [.sx .i64 (.a 0), (.v (.int .i64 (.ofNat 54)))], .sx .i64 (.a 1))] := by
  intro x hx
  simp only [List.mem_cons, List.not_mem_nil, or_false] at hx
  subst hx
  exact rlow54 n hn

theorem rsign54 (n : Int) (hn : In n) : Ret Try.prog 21 [.int .i64 n, .int .i64 (54 : Nat)] (.int .i64 (sgnF n 54)) := by
  have hb : (SX.eval (fun j => [n, lowF n 54].getD j 0) (.and .i64 (.shr (.a 1) 53) (.c 1))) = lowF n 54 / 2 ^ 53 % 2 := by
    show IntKind.i64.wrap (BitVec.ofInt IntKind.i64.bits ((lowF n 54).fdiv (2 ^ 53)) &&& BitVec.ofInt IntKind.i64.bits 1).toNat = _
    rw [andOne, fdivP]
  obtain ⟨h1, h2⟩ := id hn
  by_cases hc : lowF n 54 / 2 ^ 53 % 2 = 1
  · have hh : Holds (fun j => [n, lowF n 54].getD j 0) [.is (.and .i64 (.shr (.a 1) 53) (.c 1)) 1] := holds_cons (hb.trans hc) holds_nil
    have h := retV hh (rlt54 n hn) (by kernel_rfl) (by kernel_rfl) (f := 21) (args := [.sx .i64 (.a 0), (.v (.int .i64 (.ofNat 54)))]) (v := .sx .i64 (.wrap .i64 (.sub (.a 1) (.c 18014398509481984)))) (by kernel_rfl) (by kernel_rfl) (by kernel_rfl)
    have e : IntKind.i64.wrap (lowF n 54 - 18014398509481984) = sgnF n 54 := by
      simp only [wrapI, lowF, sgnF] at hc ⊢
      omega
    rw [← e]
    exact h
  · have hh : Holds (fun j => [n, lowF n 54].getD j 0) [.ne (.and .i64 (.shr (.a 1) 53) (.c 1)) 1] := holds_cons (by show _ ≠ _; rw [hb]; exact hc) holds_nil
    have h := retV hh (rlt54 n hn) (by kernel_rfl) (by kernel_rfl) (f := 21) (args := [.sx .i64 (.a 0), (.v (.int .i64 (.ofNat 54)))]) (v := .sx .i64 (.a 1)) (by kernel_rfl) (by kernel_rfl) (by kernel_rfl)
    have e : lowF n 54 = sgnF n 54 := by
      simp only [lowF, sgnF] at hc ⊢
      omega
    rw [← e]
    exact h

theorem rfits54 (n : Int) (hn : In n) : Ret Try.prog 17 [.int .i64 n, .int .i64 (54 : Nat)] (.bool (sgnF n 54 == n)) := by
  have hb : (SX.eval (fun _ => n) (.shr (.a 0) 53)) = n / 2 ^ 53 := by show n.fdiv (2 ^ 53) = _; rw [fdivP]
  have p := (pl54 n hn).fit
  obtain ⟨h1, h2⟩ := id hn
  by_cases hc : n / 2 ^ 53 = 0
  · have hh : Holds (fun _ => n) [.is (.shr (.a 0) 53) 0] := holds_cons (hb.trans hc) holds_nil
    have h := retV hh tabNil rfl rfl (f := 17) (args := [.sx .i64 (.a 0), (.v (.int .i64 (.ofNat 54)))]) (v := .v (.bool true)) (by kernel_rfl) (by kernel_rfl) (by kernel_rfl)
    have e : (sgnF n 54 == n) = true := by
      rw [beq_iff_eq, p]
      simp only [Nat.reduceSub] at *
      omega
    rw [e]
    exact h
  · have hh : Holds (fun _ => n) [.ne (.shr (.a 0) 53) 0] := holds_cons (by show _ ≠ _; rw [hb]; exact hc) holds_nil
    have h := retV hh tabNil rfl rfl (f := 17) (args := [.sx .i64 (.a 0), (.v (.int .i64 (.ofNat 54)))]) (v := .sb (.eq (.shr (.a 0) 53) (.c (-1)))) (by kernel_rfl) (by kernel_rfl) (by kernel_rfl)
    have e : (sgnF n 54 == n) = (n.fdiv (2 ^ 53) == -1) := by
      rw [Bool.eq_iff_iff, beq_iff_eq, beq_iff_eq, p, fdivP]
      simp only [Nat.reduceSub] at *
      omega
    rw [e]
    exact h

theorem rft54 (n : Int) (hn : In n) {b : Bool} (h : (sgnF n 54 == n) = b) : TabOK Try.prog (fun _ => n) sl0 [(17, [.sx .i64 (.a 0), (.v (.int .i64 (.ofNat 54)))], .v (.bool b))] := by
  intro x hx
  simp only [List.mem_cons, List.not_mem_nil, or_false] at hx
  subst hx
  subst h
  exact rfits54 n hn

theorem rwide54 (n : Int) (hn : In n) : Ret Try.prog 19 [.int .i64 n, .int .i64 (54 : Nat)] (.bool (sgnF n 54 == n || lowF n 54 == n)) := by
  cases hf : (sgnF n 54 == n) with
  | true =>
    have h := retV (val := fun _ => n) (F := []) holds_nil (rft54 n hn hf) (by kernel_rfl) (by kernel_rfl) (f := 19) (args := [.sx .i64 (.a 0), (.v (.int .i64 (.ofNat 54)))]) (v := .v (.bool true)) (by kernel_rfl) (by kernel_rfl) (by kernel_rfl)
    exact h
  | false =>
    have p := (pl54 n hn).fit
    rw [beq_eq_false_iff_ne] at hf
    obtain ⟨h1, h2⟩ := id hn
    have pl := (pl54 n hn).low
    by_cases hc : 1 ≤ n
    · have hh : Holds (fun _ => n) [.ge (.a 0) 1] := holds_cons hc holds_nil
      have h := retV hh (rft54 n hn (beq_eq_false_iff_ne.2 hf)) (by kernel_rfl) (by kernel_rfl) (f := 19) (args := [.sx .i64 (.a 0), (.v (.int .i64 (.ofNat 54)))]) (v := .sb (.eq (.shr (.a 0) 54) (.c 0))) (by kernel_rfl) (by kernel_rfl) (by kernel_rfl)
      have e : (false || lowF n 54 == n) = (n.fdiv (2 ^ 54) == 0) := by
        rw [Bool.false_or, Bool.eq_iff_iff, beq_iff_eq, beq_iff_eq, pl, fdivP]
        omega
      rw [e]
      exact h
    · have hh : Holds (fun _ => n) [.le (.a 0) 0] := holds_cons (show n ≤ 0 by omega) holds_nil
      have h := retV hh (rft54 n hn (beq_eq_false_iff_ne.2 hf)) (by kernel_rfl) (by kernel_rfl) (f := 19) (args := [.sx .i64 (.a 0), (.v (.int .i64 (.ofNat 54)))]) (v := .v (.bool false)) (by kernel_rfl) (by kernel_rfl) (by kernel_rfl)
      have e : (false || lowF n 54 == n) = false := by
        rw [Bool.false_or, beq_eq_false_iff_ne]
        intro hl
        rw [pl] at hl
        simp only [Nat.reduceSub] at *
        apply hf
        rw [p]
        omega
      rw [e]
      exact h

theorem rlow55 (n : Int) (hn : In n) : Ret Try.prog 23 [.int .i64 n, .int .i64 (55 : Nat)] (.int .i64 (lowF n 55)) := by
  have h := retV (val := fun _ => n) (F := []) holds_nil tabNil rfl rfl (f := 23) (args := [.sx .i64 (.a 0), (.v (.int .i64 (.ofNat 55)))]) (v := .sx .i64 (chain 55)) (by kernel_rfl) (by kernel_rfl) (by kernel_rfl)
  simp only [concs, conc, chain_eval _ 55 (by omega)] at h
  have e : IntKind.i64.wrap (n % 2 ^ 55) = lowF n 55 := by
    obtain ⟨h1, h2⟩ := hn
    simp only [wrapI, lowF]
    omega
  rw [← e]
  exact h

theorem rlt55 (n : Int) (hn : In n) : TabOK Try.prog (fun j => [n, lowF n 55].getD j 0) sl0 [(23, [.sx .i64 (.a 0), (.v (.int .i64 (.ofNat 55)))], .sx .i64 (.a 1))] := by
  intro x hx
  simp only [List.mem_cons, List.not_mem_nil, or_false] at hx
  subst hx
  exact rlow55 n hn

theorem rsign55 (n : Int) (hn : In n) : Ret Try.prog 21 [.int .i64 n, .int .i64 (55 : Nat)] (.int .i64 (sgnF n 55)) := by
  have hb : (SX.eval (fun j => [n, lowF n 55].getD j 0) (.and .i64 (.shr (.a 1) 54) (.c 1))) = lowF n 55 / 2 ^ 54 % 2 := by
    show IntKind.i64.wrap (BitVec.ofInt IntKind.i64.bits ((lowF n 55).fdiv (2 ^ 54)) &&& BitVec.ofInt IntKind.i64.bits 1).toNat = _
    rw [andOne, fdivP]
  obtain ⟨h1, h2⟩ := id hn
  by_cases hc : lowF n 55 / 2 ^ 54 % 2 = 1
  · have hh : Holds (fun j => [n, lowF n 55].getD j 0) [.is (.and .i64 (.shr (.a 1) 54) (.c 1)) 1] := holds_cons (hb.trans hc) holds_nil
    have h := retV hh (rlt55 n hn) (by kernel_rfl) (by kernel_rfl) (f := 21) (args := [.sx .i64 (.a 0), (.v (.int .i64 (.ofNat 55)))]) (v := .sx .i64 (.wrap .i64 (.sub (.a 1) (.c 36028797018963968)))) (by kernel_rfl) (by kernel_rfl) (by kernel_rfl)
    have e : IntKind.i64.wrap (lowF n 55 - 36028797018963968) = sgnF n 55 := by
      simp only [wrapI, lowF, sgnF] at hc ⊢
      omega
    rw [← e]
    exact h
  · have hh : Holds (fun j => [n, lowF n 55].getD j 0) [.ne (.and .i64 (.shr (.a 1) 54) (.c 1)) 1] := holds_cons (by show _ ≠ _; rw [hb]; exact hc) holds_nil
    have h := retV hh (rlt55 n hn) (by kernel_rfl) (by kernel_rfl) (f := 21) (args := [.sx .i64 (.a 0), (.v (.int .i64 (.ofNat 55)))]) (v := .sx .i64 (.a 1)) (by kernel_rfl) (by kernel_rfl) (by kernel_rfl)
    have e : lowF n 55 = sgnF n 55 := by
      simp only [lowF, sgnF] at hc ⊢
      omega
    rw [← e]
    exact h

theorem rfits55 (n : Int) (hn : In n) : Ret Try.prog 17 [.int .i64 n, .int .i64 (55 : Nat)] (.bool (sgnF n 55 == n)) := by
  have hb : (SX.eval (fun _ => n) (.shr (.a 0) 54)) = n / 2 ^ 54 := by show n.fdiv (2 ^ 54) = _; rw [fdivP]
  have p := (pl55 n hn).fit
  obtain ⟨h1, h2⟩ := id hn
  by_cases hc : n / 2 ^ 54 = 0
  · have hh : Holds (fun _ => n) [.is (.shr (.a 0) 54) 0] := holds_cons (hb.trans hc) holds_nil
    have h := retV hh tabNil rfl rfl (f := 17) (args := [.sx .i64 (.a 0), (.v (.int .i64 (.ofNat 55)))]) (v := .v (.bool true)) (by kernel_rfl) (by kernel_rfl) (by kernel_rfl)
    have e : (sgnF n 55 == n) = true := by
      rw [beq_iff_eq, p]
      simp only [Nat.reduceSub] at *
      omega
    rw [e]
    exact h
  · have hh : Holds (fun _ => n) [.ne (.shr (.a 0) 54) 0] := holds_cons (by show _ ≠ _; rw [hb]; exact hc) holds_nil
    have h := retV hh tabNil rfl rfl (f := 17) (args := [.sx .i64 (.a 0), (.v (.int .i64 (.ofNat 55)))]) (v := .sb (.eq (.shr (.a 0) 54) (.c (-1)))) (by kernel_rfl) (by kernel_rfl) (by kernel_rfl)
    have e : (sgnF n 55 == n) = (n.fdiv (2 ^ 54) == -1) := by
      rw [Bool.eq_iff_iff, beq_iff_eq, beq_iff_eq, p, fdivP]
      simp only [Nat.reduceSub] at *
      omega
    rw [e]
    exact h

theorem rft55 (n : Int) (hn : In n) {b : Bool} (h : (sgnF n 55 == n) = b) : TabOK Try.prog (fun _ => n) sl0 [(17, [.sx .i64 (.a 0), (.v (.int .i64 (.ofNat 55)))], .v (.bool b))] := by
  intro x hx
  simp only [List.mem_cons, List.not_mem_nil, or_false] at hx
  subst hx
  subst h
  exact rfits55 n hn

theorem rwide55 (n : Int) (hn : In n) : Ret Try.prog 19 [.int .i64 n, .int .i64 (55 : Nat)] (.bool (sgnF n 55 == n || lowF n 55 == n)) := by
  cases hf : (sgnF n 55 == n) with
  | true =>
    have h := retV (val := fun _ => n) (F := []) holds_nil (rft55 n hn hf) (by kernel_rfl) (by kernel_rfl) (f := 19) (args := [.sx .i64 (.a 0), (.v (.int .i64 (.ofNat 55)))]) (v := .v (.bool true)) (by kernel_rfl) (by kernel_rfl) (by kernel_rfl)
    exact h
  | false =>
    have p := (pl55 n hn).fit
    rw [beq_eq_false_iff_ne] at hf
    obtain ⟨h1, h2⟩ := id hn
    have pl := (pl55 n hn).low
    by_cases hc : 1 ≤ n
    · have hh : Holds (fun _ => n) [.ge (.a 0) 1] := holds_cons hc holds_nil
      have h := retV hh (rft55 n hn (beq_eq_false_iff_ne.2 hf)) (by kernel_rfl) (by kernel_rfl) (f := 19) (args := [.sx .i64 (.a 0), (.v (.int .i64 (.ofNat 55)))]) (v := .sb (.eq (.shr (.a 0) 55) (.c 0))) (by kernel_rfl) (by kernel_rfl) (by kernel_rfl)
      have e : (false || lowF n 55 == n) = (n.fdiv (2 ^ 55) == 0) := by
        rw [Bool.false_or, Bool.eq_iff_iff, beq_iff_eq, beq_iff_eq, pl, fdivP]
        omega
      rw [e]
      exact h
    · have hh : Holds (fun _ => n) [.le (.a 0) 0] := holds_cons (show n ≤ 0 by omega) holds_nil
      have h := retV hh (rft55 n hn (beq_eq_false_iff_ne.2 hf)) (by kernel_rfl) (by kernel_rfl) (f := 19) (args := [.sx .i64 (.a 0), (.v (.int .i64 (.ofNat 55)))]) (v := .v (.bool false)) (by kernel_rfl) (by kernel_rfl) (by kernel_rfl)
      have e : (false || lowF n 55 == n) = false := by
        rw [Bool.false_or, beq_eq_false_iff_ne]
        intro hl
        rw [pl] at hl
        simp only [Nat.reduceSub] at *
        apply hf
        rw [p]
        omega
      rw [e]
      exact h

theorem rlow56 (n : Int) (hn : In n) : Ret Try.prog 23 [.int .i64 n, .int .i64 (56 : Nat)] (.int .i64 (lowF n 56)) := by
  have h := retV (val := fun _ => n) (F := []) holds_nil tabNil rfl rfl (f := 23) (args := [.sx .i64 (.a 0), (.v (.int .i64 (.ofNat 56)))]) (v := .sx .i64 (chain 56)) (by kernel_rfl) (by kernel_rfl) (by kernel_rfl)
  simp only [concs, conc, chain_eval _ 56 (by omega)] at h
  have e : IntKind.i64.wrap (n % 2 ^ 56) = lowF n 56 := by
    obtain ⟨h1, h2⟩ := hn
    simp only [wrapI, lowF]
    omega
  rw [← e]
  exact h

theorem rlt56 (n : Int) (hn : In n) : TabOK Try.prog (fun j => [n, lowF n 56].getD j 0) sl0 [(23, [.sx .i64 (.a 0), (.v (.int .i64 (.ofNat 56)))], .sx .i64 (.a 1))] := by
  intro x hx
  simp only [List.mem_cons, List.not_mem_nil, or_false] at hx
  subst hx
  exact rlow56 n hn

theorem rsign56 (n : Int) (hn : In n) : Ret Try.prog 21 [.int .i64 n, .int .i64 (56 : Nat)] (.int .i64 (sgnF n 56)) := by
  have hb : (SX.eval (fun j => [n, lowF n 56].getD j 0) (.and .i64 (.shr (.a 1) 55) (.c 1))) = lowF n 56 / 2 ^ 55 % 2 := by
    show IntKind.i64.wrap (BitVec.ofInt IntKind.i64.bits ((lowF n 56).fdiv (2 ^ 55)) &&& BitVec.ofInt IntKind.i64.bits 1).toNat = _
    rw [andOne, fdivP]
  obtain ⟨h1, h2⟩ := id hn
  by_cases hc : lowF n 56 / 2 ^ 55 % 2 = 1
  · have hh : Holds (fun j => [n, lowF n 56].getD j 0) [.is (.and .i64 (.shr (.a 1) 55) (.c 1)) 1] := holds_cons (hb.trans hc) holds_nil
    have h := retV hh (rlt56 n hn) (by kernel_rfl) (by kernel_rfl) (f := 21) (args := [.sx .i64 (.a 0), (.v (.int .i64 (.ofNat 56)))]) (v := .sx .i64 (.wrap .i64 (.sub (.a 1) (.c 72057594037927936)))) (by kernel_rfl) (by kernel_rfl) (by kernel_rfl)
    have e : IntKind.i64.wrap (lowF n 56 - 72057594037927936) = sgnF n 56 := by
      simp only [wrapI, lowF, sgnF] at hc ⊢
      omega
    rw [← e]
    exact h
  · have hh : Holds (fun j => [n, lowF n 56].getD j 0) [.ne (.and .i64 (.shr (.a 1) 55) (.c 1)) 1] := holds_cons (by show _ ≠ _; rw [hb]; exact hc) holds_nil
    have h := retV hh (rlt56 n hn) (by kernel_rfl) (by kernel_rfl) (f := 21) (args := [.sx .i64 (.a 0), (.v (.int .i64 (.ofNat 56)))]) (v := .sx .i64 (.a 1)) (by kernel_rfl) (by kernel_rfl) (by kernel_rfl)
    have e : lowF n 56 = sgnF n 56 := by
      simp only [lowF, sgnF] at hc ⊢
      omega
    rw [← e]
    exact h

theorem rfits56 (n : Int) (hn : In n) : Ret Try.prog 17 [.int .i64 n, .int .i64 (56 : Nat)] (.bool (sgnF n 56 == n)) := by
  have hb : (SX.eval (fun _ => n) (.shr (.a 0) 55)) = n / 2 ^ 55 := by show n.fdiv (2 ^ 55) = _; rw [fdivP]
  have p := (pl56 n hn).fit
  obtain ⟨h1, h2⟩ := id hn
  by_cases hc : n / 2 ^ 55 = 0
  · have hh : Holds (fun _ => n) [.is (.shr (.a 0) 55) 0] := holds_cons (hb.trans hc) holds_nil
    have h := retV hh tabNil rfl rfl (f := 17) (args := [.sx .i64 (.a 0), (.v (.int .i64 (.ofNat 56)))]) (v := .v (.bool true)) (by kernel_rfl) (by kernel_rfl) (by kernel_rfl)
    have e : (sgnF n 56 == n) = true := by
      rw [beq_iff_eq, p]
      simp only [Nat.reduceSub] at *
      omega
    rw [e]
    exact h
  · have hh : Holds (fun _ => n) [.ne (.shr (.a 0) 55) 0] := holds_cons (by show _ ≠ _; rw [hb]; exact hc) holds_nil
    have h := retV hh tabNil rfl rfl (f := 17) (args := [.sx .i64 (.a 0), (.v (.int .i64 (.ofNat 56)))]) (v := .sb (.eq (.shr (.a 0) 55) (.c (-1)))) (by kernel_rfl) (by kernel_rfl) (by kernel_rfl)
    have e : (sgnF n 56 == n) = (n.fdiv (2 ^ 55) == -1) := by
      rw [Bool.eq_iff_iff, beq_iff_eq, beq_iff_eq, p, fdivP]
      simp only [Nat.reduceSub] at *
      omega
    rw [e]
    exact h

theorem rft56 (n : Int) (hn : In n) {b : Bool} (h : (sgnF n 56 == n) = b) : TabOK Try.prog (fun _ => n) sl0 [(17, [.sx .i64 (.a 0), (.v (.int .i64 (.ofNat 56)))], .v (.bool b))] := by
  intro x hx
  simp only [List.mem_cons, List.not_mem_nil, or_false] at hx
  subst hx
  subst h
  exact rfits56 n hn

theorem rwide56 (n : Int) (hn : In n) : Ret Try.prog 19 [.int .i64 n, .int .i64 (56 : Nat)] (.bool (sgnF n 56 == n || lowF n 56 == n)) := by
  cases hf : (sgnF n 56 == n) with
  | true =>
    have h := retV (val := fun _ => n) (F := []) holds_nil (rft56 n hn hf) (by kernel_rfl) (by kernel_rfl) (f := 19) (args := [.sx .i64 (.a 0), (.v (.int .i64 (.ofNat 56)))]) (v := .v (.bool true)) (by kernel_rfl) (by kernel_rfl) (by kernel_rfl)
    exact h
  | false =>
    have p := (pl56 n hn).fit
    rw [beq_eq_false_iff_ne] at hf
    obtain ⟨h1, h2⟩ := id hn
    have pl := (pl56 n hn).low
    by_cases hc : 1 ≤ n
    · have hh : Holds (fun _ => n) [.ge (.a 0) 1] := holds_cons hc holds_nil
      have h := retV hh (rft56 n hn (beq_eq_false_iff_ne.2 hf)) (by kernel_rfl) (by kernel_rfl) (f := 19) (args := [.sx .i64 (.a 0), (.v (.int .i64 (.ofNat 56)))]) (v := .sb (.eq (.shr (.a 0) 56) (.c 0))) (by kernel_rfl) (by kernel_rfl) (by kernel_rfl)
      have e : (false || lowF n 56 == n) = (n.fdiv (2 ^ 56) == 0) := by
        rw [Bool.false_or, Bool.eq_iff_iff, beq_iff_eq, beq_iff_eq, pl, fdivP]
        omega
      rw [e]
      exact h
    · have hh : Holds (fun _ => n) [.le (.a 0) 0] := holds_cons (show n ≤ 0 by omega) holds_nil
      have h := retV hh (rft56 n hn (beq_eq_false_iff_ne.2 hf)) (by kernel_rfl) (by kernel_rfl) (f := 19) (args := [.sx .i64 (.a 0), (.v (.int .i64 (.ofNat 56)))]) (v := .v (.bool false)) (by kernel_rfl) (by kernel_rfl) (by kernel_rfl)
      have e : (false || lowF n 56 == n) = false := by
        rw [Bool.false_or, beq_eq_false_iff_ne]
        intro hl
        rw [pl] at hl
        simp only [Nat.reduceSub] at *
        apply hf
        rw [p]
        omega
      rw [e]
      exact h

theorem rlow57 (n : Int) (hn : In n) : Ret Try.prog 23 [.int .i64 n, .int .i64 (57 : Nat)] (.int .i64 (lowF n 57)) := by
  have h := retV (val := fun _ => n) (F := []) holds_nil tabNil rfl rfl (f := 23) (args := [.sx .i64 (.a 0), (.v (.int .i64 (.ofNat 57)))]) (v := .sx .i64 (chain 57)) (by kernel_rfl) (by kernel_rfl) (by kernel_rfl)
  simp only [concs, conc, chain_eval _ 57 (by omega)] at h
  have e : IntKind.i64.wrap (n % 2 ^ 57) = lowF n 57 := by
    obtain ⟨h1, h2⟩ := hn
    simp only [wrapI, lowF]
    omega
  rw [← e]
  exact h

theorem rlt57 (n : Int) (hn : In n) : TabOK Try.prog (fun j => [n, lowF n 57].getD j 0) sl0 [(23, [.sx .i64 (.a 0), (.v (.int .i64 (.ofNat 57)))], .sx .i64 (.a 1))] := by
  intro x hx
  simp only [List.mem_cons, List.not_mem_nil, or_false] at hx
  subst hx
  exact rlow57 n hn

theorem rsign57 (n : Int) (hn : In n) : Ret Try.prog 21 [.int .i64 n, .int .i64 (57 : Nat)] (.int .i64 (sgnF n 57)) := by
  have hb : (SX.eval (fun j => [n, lowF n 57].getD j 0) (.and .i64 (.shr (.a 1) 56) (.c 1))) = lowF n 57 / 2 ^ 56 % 2 := by
    show IntKind.i64.wrap (BitVec.ofInt IntKind.i64.bits ((lowF n 57).fdiv (2 ^ 56)) &&& BitVec.ofInt IntKind.i64.bits 1).toNat = _
    rw [andOne, fdivP]
  obtain ⟨h1, h2⟩ := id hn
  by_cases hc : lowF n 57 / 2 ^ 56 % 2 = 1
  · have hh : Holds (fun j => [n, lowF n 57].getD j 0) [.is (.and .i64 (.shr (.a 1) 56) (.c 1)) 1] := holds_cons (hb.trans hc) holds_nil
    have h := retV hh (rlt57 n hn) (by kernel_rfl) (by kernel_rfl) (f := 21) (args := [.sx .i64 (.a 0), (.v (.int .i64 (.ofNat 57)))]) (v := .sx .i64 (.wrap .i64 (.sub (.a 1) (.c 144115188075855872)))) (by kernel_rfl) (by kernel_rfl) (by kernel_rfl)
    have e : IntKind.i64.wrap (lowF n 57 - 144115188075855872) = sgnF n 57 := by
      simp only [wrapI, lowF, sgnF] at hc ⊢
      omega
    rw [← e]
    exact h
  · have hh : Holds (fun j => [n, lowF n 57].getD j 0) [.ne (.and .i64 (.shr (.a 1) 56) (.c 1)) 1] := holds_cons (by show _ ≠ _; rw [hb]; exact hc) holds_nil
    have h := retV hh (rlt57 n hn) (by kernel_rfl) (by kernel_rfl) (f := 21) (args := [.sx .i64 (.a 0), (.v (.int .i64 (.ofNat 57)))]) (v := .sx .i64 (.a 1)) (by kernel_rfl) (by kernel_rfl) (by kernel_rfl)
    have e : lowF n 57 = sgnF n 57 := by
      simp only [lowF, sgnF] at hc ⊢
      omega
    rw [← e]
    exact h

theorem rfits57 (n : Int) (hn : In n) : Ret Try.prog 17 [.int .i64 n, .int .i64 (57 : Nat)] (.bool (sgnF n 57 == n)) := by
  have hb : (SX.eval (fun _ => n) (.shr (.a 0) 56)) = n / 2 ^ 56 := by show n.fdiv (2 ^ 56) = _; rw [fdivP]
  have p := (pl57 n hn).fit
  obtain ⟨h1, h2⟩ := id hn
  by_cases hc : n / 2 ^ 56 = 0
  · have hh : Holds (fun _ => n) [.is (.shr (.a 0) 56) 0] := holds_cons (hb.trans hc) holds_nil
    have h := retV hh tabNil rfl rfl (f := 17) (args := [.sx .i64 (.a 0), (.v (.int .i64 (.ofNat 57)))]) (v := .v (.bool true)) (by kernel_rfl) (by kernel_rfl) (by kernel_rfl)
    have e : (sgnF n 57 == n) = true := by
      rw [beq_iff_eq, p]
      simp only [Nat.reduceSub] at *
      omega
    rw [e]
    exact h
  · have hh : Holds (fun _ => n) [.ne (.shr (.a 0) 56) 0] := holds_cons (by show _ ≠ _; rw [hb]; exact hc) holds_nil
    have h := retV hh tabNil rfl rfl (f := 17) (args := [.sx .i64 (.a 0), (.v (.int .i64 (.ofNat 57)))]) (v := .sb (.eq (.shr (.a 0) 56) (.c (-1)))) (by kernel_rfl) (by kernel_rfl) (by kernel_rfl)
    have e : (sgnF n 57 == n) = (n.fdiv (2 ^ 56) == -1) := by
      rw [Bool.eq_iff_iff, beq_iff_eq, beq_iff_eq, p, fdivP]
      simp only [Nat.reduceSub] at *
      omega
    rw [e]
    exact h

theorem rft57 (n : Int) (hn : In n) {b : Bool} (h : (sgnF n 57 == n) = b) : TabOK Try.prog (fun _ => n) sl0 [(17, [.sx .i64 (.a 0), (.v (.int .i64 (.ofNat 57)))], .v (.bool b))] := by
  intro x hx
  simp only [List.mem_cons, List.not_mem_nil, or_false] at hx
  subst hx
  subst h
  exact rfits57 n hn

theorem rwide57 (n : Int) (hn : In n) : Ret Try.prog 19 [.int .i64 n, .int .i64 (57 : Nat)] (.bool (sgnF n 57 == n || lowF n 57 == n)) := by
  cases hf : (sgnF n 57 == n) with
  | true =>
    have h := retV (val := fun _ => n) (F := []) holds_nil (rft57 n hn hf) (by kernel_rfl) (by kernel_rfl) (f := 19) (args := [.sx .i64 (.a 0), (.v (.int .i64 (.ofNat 57)))]) (v := .v (.bool true)) (by kernel_rfl) (by kernel_rfl) (by kernel_rfl)
    exact h
  | false =>
    have p := (pl57 n hn).fit
    rw [beq_eq_false_iff_ne] at hf
    obtain ⟨h1, h2⟩ := id hn
    have pl := (pl57 n hn).low
    by_cases hc : 1 ≤ n
    · have hh : Holds (fun _ => n) [.ge (.a 0) 1] := holds_cons hc holds_nil
      have h := retV hh (rft57 n hn (beq_eq_false_iff_ne.2 hf)) (by kernel_rfl) (by kernel_rfl) (f := 19) (args := [.sx .i64 (.a 0), (.v (.int .i64 (.ofNat 57)))]) (v := .sb (.eq (.shr (.a 0) 57) (.c 0))) (by kernel_rfl) (by kernel_rfl) (by kernel_rfl)
      have e : (false || lowF n 57 == n) = (n.fdiv (2 ^ 57) == 0) := by
        rw [Bool.false_or, Bool.eq_iff_iff, beq_iff_eq, beq_iff_eq, pl, fdivP]
        omega
      rw [e]
      exact h
    · have hh : Holds (fun _ => n) [.le (.a 0) 0] := holds_cons (show n ≤ 0 by omega) holds_nil
      have h := retV hh (rft57 n hn (beq_eq_false_iff_ne.2 hf)) (by kernel_rfl) (by kernel_rfl) (f := 19) (args := [.sx .i64 (.a 0), (.v (.int .i64 (.ofNat 57)))]) (v := .v (.bool false)) (by kernel_rfl) (by kernel_rfl) (by kernel_rfl)
      have e : (false || lowF n 57 == n) = false := by
        rw [Bool.false_or, beq_eq_false_iff_ne]
        intro hl
        rw [pl] at hl
        simp only [Nat.reduceSub] at *
        apply hf
        rw [p]
        omega
      rw [e]
      exact h

theorem rlow58 (n : Int) (hn : In n) : Ret Try.prog 23 [.int .i64 n, .int .i64 (58 : Nat)] (.int .i64 (lowF n 58)) := by
  have h := retV (val := fun _ => n) (F := []) holds_nil tabNil rfl rfl (f := 23) (args := [.sx .i64 (.a 0), (.v (.int .i64 (.ofNat 58)))]) (v := .sx .i64 (chain 58)) (by kernel_rfl) (by kernel_rfl) (by kernel_rfl)
  simp only [concs, conc, chain_eval _ 58 (by omega)] at h
  have e : IntKind.i64.wrap (n % 2 ^ 58) = lowF n 58 := by
    obtain ⟨h1, h2⟩ := hn
    simp only [wrapI, lowF]
    omega
  rw [← e]
  exact h

theorem rlt58 (n : Int) (hn : In n) : TabOK Try.prog (fun j => [n, lowF n 58].getD j 0) sl0 [(23, [.sx .i64 (.a 0), (.v (.int .i64 (.ofNat 58)))], .sx .i64 (.a 1))] := by
  intro x hx
  simp only [List.mem_cons, List.not_mem_nil, or_false] at hx
  subst hx
  exact rlow58 n hn

theorem rsign58 (n : Int) (hn : In n) : Ret Try.prog 21 [.int .i64 n, .int .i64 (58 : Nat)] (.int .i64 (sgnF n 58)) := by
  have hb : (SX.eval (fun j => [n, lowF n 58].getD j 0) (.and .i64 (.shr (.a 1) 57) (.c 1))) = lowF n 58 / 2 ^ 57 % 2 := by
    show IntKind.i64.wrap (BitVec.ofInt IntKind.i64.bits ((lowF n 58).fdiv (2 ^ 57)) &&& BitVec.ofInt IntKind.i64.bits 1).toNat = _
    rw [andOne, fdivP]
  obtain ⟨h1, h2⟩ := id hn
  by_cases hc : lowF n 58 / 2 ^ 57 % 2 = 1
  · have hh : Holds (fun j => [n, lowF n 58].getD j 0) [.is (.and .i64 (.shr (.a 1) 57) (.c 1)) 1] := holds_cons (hb.trans hc) holds_nil
    have h := retV hh (rlt58 n hn) (by kernel_rfl) (by kernel_rfl) (f := 21) (args := [.sx .i64 (.a 0), (.v (.int .i64 (.ofNat 58)))]) (v := .sx .i64 (.wrap .i64 (.sub (.a 1) (.c 288230376151711744)))) (by kernel_rfl) (by kernel_rfl) (by kernel_rfl)
    have e : IntKind.i64.wrap (lowF n 58 - 288230376151711744) = sgnF n 58 := by
      simp only [wrapI, lowF, sgnF] at hc ⊢
      omega
    rw [← e]
    exact h
  · have hh : Holds (fun j => [n, lowF n 58].getD j 0) [.ne (.and .i64 (.shr (.a 1) 57) (.c 1)) 1] := holds_cons (by show _ ≠ _; rw [hb]; exact hc) holds_nil
    have h := retV hh (rlt58 n hn) (by kernel_rfl) (by kernel_rfl) (f := 21) (args := [.sx .i64 (.a 0), (.v (.int .i64 (.ofNat 58)))]) (v := .sx .i64 (.a 1)) (by kernel_rfl) (by kernel_rfl) (by kernel_rfl)
    have e : lowF n 58 = sgnF n 58 := by
      simp only [lowF, sgnF] at hc ⊢
      omega
    rw [← e]
    exact h

theorem rfits58 (n : Int) (hn : In n) : Ret Try.prog 17 [.int .i64 n, .int .i64 (58 : Nat)] (.bool (sgnF n 58 == n)) := by
  have hb : (SX.eval (fun _ => n) (.shr (.a 0) 57)) = n / 2 ^ 57 := by show n.fdiv (2 ^ 57) = _; rw [fdivP]
  have p := (pl58 n hn).fit
  obtain ⟨h1, h2⟩ := id hn
  by_cases hc : n / 2 ^ 57 = 0
  · have hh : Holds (fun _ => n) [.is (.shr (.a 0) 57) 0] := holds_cons (hb.trans hc) holds_nil
    have h := retV hh tabNil rfl rfl (f := 17) (args := [.sx .i64 (.a 0), (.v (.int .i64 (.ofNat 58)))]) (v := .v (.bool true)) (by kernel_rfl) (by kernel_rfl) (by kernel_rfl)
    have e : (sgnF n 58 == n) = true := by
      rw [beq_iff_eq, p]
      simp only [Nat.reduceSub] at *
      omega
    rw [e]
    exact h
  · have hh : Holds (fun _ => n) [.ne (.shr (.a 0) 57) 0] := holds_cons (by show _ ≠ _; rw [hb]; exact hc) holds_nil
    have h := retV hh tabNil rfl rfl (f := 17) (args := [.sx .i64 (.a 0), (.v (.int .i64 (.ofNat 58)))]) (v := .sb (.eq (.shr (.a 0) 57) (.c (-1)))) (by kernel_rfl) (by kernel_rfl) (by kernel_rfl)
    have e : (sgnF n 58 == n) = (n.fdiv (2 ^ 57) == -1) := by
      rw [Bool.eq_iff_iff, beq_iff_eq, beq_iff_eq, p, fdivP]
      simp only [Nat.reduceSub] at *
      omega
    rw [e]
    exact h

theorem rft58 (n : Int) (hn : In n) {b : Bool} (h : (sgnF n 58 == n) = b) : TabOK Try.prog (fun _ => n) sl0 [(17, [.sx .i64 (.a 0), (.v (.int .i64 (.ofNat 58)))], .v (.bool b))] := by
  intro x hx
  simp only [List.mem_cons, List.not_mem_nil, or_false] at hx
  subst hx
  subst h
  exact rfits58 n hn

theorem rwide58 (n : Int) (hn : In n) : Ret Try.prog 19 [.int .i64 n, .int .i64 (58 : Nat)] (.bool (sgnF n 58 == n || lowF n 58 == n)) := by
  cases hf : (sgnF n 58 == n) with
  | true =>
    have h := retV (val := fun _ => n) (F := []) holds_nil (rft58 n hn hf) (by kernel_rfl) (by kernel_rfl) (f := 19) (args := [.sx .i64 (.a 0), (.v (.int .i64 (.ofNat 58)))]) (v := .v (.bool true)) (by kernel_rfl) (by kernel_rfl) (by kernel_rfl)
    exact h
  | false =>
    have p := (pl58 n hn).fit
    rw [beq_eq_false_iff_ne] at hf
    obtain ⟨h1, h2⟩ := id hn
    have pl := (pl58 n hn).low
    by_cases hc : 1 ≤ n
    · have hh : Holds (fun _ => n) [.ge (.a 0) 1] := holds_cons hc holds_nil
      have h := retV hh (rft58 n hn (beq_eq_false_iff_ne.2 hf)) (by kernel_rfl) (by kernel_rfl) (f := 19) (args := [.sx .i64 (.a 0), (.v (.int .i64 (.ofNat 58)))]) (v := .sb (.eq (.shr (.a 0) 58) (.c 0))) (by kernel_rfl) (by kernel_rfl) (by kernel_rfl)
      have e : (false || lowF n 58 == n) = (n.fdiv (2 ^ 58) == 0) := by
        rw [Bool.false_or, Bool.eq_iff_iff, beq_iff_eq, beq_iff_eq, pl, fdivP]
        omega
      rw [e]
      exact h
    · have hh : Holds (fun _ => n) [.le (.a 0) 0] := holds_cons (show n ≤ 0 by omega) holds_nil
      have h := retV hh (rft58 n hn (beq_eq_false_iff_ne.2 hf)) (by kernel_rfl) (by kernel_rfl) (f := 19) (args := [.sx .i64 (.a 0), (.v (.int .i64 (.ofNat 58)))]) (v := .v (.bool false)) (by kernel_rfl) (by kernel_rfl) (by kernel_rfl)
      have e : (false || lowF n 58 == n) = false := by
        rw [Bool.false_or, beq_eq_false_iff_ne]
        intro hl
        rw [pl] at hl
        simp only [Nat.reduceSub] at *
        apply hf
        rw [p]
        omega
      rw [e]
      exact h

theorem rlow59 (n : Int) (hn : In n) : Ret Try.prog 23 [.int .i64 n, .int .i64 (59 : Nat)] (.int .i64 (lowF n 59)) := by
  have h := retV (val := fun _ => n) (F := []) holds_nil tabNil rfl rfl (f := 23) (args := [.sx .i64 (.a 0), (.v (.int .i64 (.ofNat 59)))]) (v := .sx .i64 (chain 59)) (by kernel_rfl) (by kernel_rfl) (by kernel_rfl)
  simp only [concs, conc, chain_eval _ 59 (by omega)] at h
  have e : IntKind.i64.wrap (n % 2 ^ 59) = lowF n 59 := by
    obtain ⟨h1, h2⟩ := hn
    simp only [wrapI, lowF]
    omega
  rw [← e]
  exact h

theorem rlt59 (n : Int) (hn : In n) : TabOK Try.prog (fun j => [n, lowF n 59].getD j 0) sl0 [(23, [.sx .i64 (.a 0), (.v (.int .i64 (.ofNat 59)))], .sx .i64 (.a 1))] := by
  intro x hx
  simp only [List.mem_cons, List.not_mem_nil, or_false] at hx
  subst hx
  exact rlow59 n hn

theorem rsign59 (n : Int) (hn : In n) : Ret Try.prog 21 [.int .i64 n, .int .i64 (59 : Nat)] (.int .i64 (sgnF n 59)) := by
  have hb : (SX.eval (fun j => [n, lowF n 59].getD j 0) (.and .i64 (.shr (.a 1) 58) (.c 1))) = lowF n 59 / 2 ^ 58 % 2 := by
    show IntKind.i64.wrap (BitVec.ofInt IntKind.i64.bits ((lowF n 59).fdiv (2 ^ 58)) &&& BitVec.ofInt IntKind.i64.bits 1).toNat = _
    rw [andOne, fdivP]
  obtain ⟨h1, h2⟩ := id hn
  by_cases hc : lowF n 59 / 2 ^ 58 % 2 = 1
  · have hh : Holds (fun j => [n, lowF n 59].getD j 0) [.is (.and .i64 (.shr (.a 1) 58) (.c 1)) 1] := holds_cons (hb.trans hc) holds_nil
    have h := retV hh (rlt59 n hn) (by kernel_rfl) (by kernel_rfl) (f := 21) (args := [.sx .i64 (.a 0), (.v (.int .i64 (.ofNat 59)))]) (v := .sx .i64 (.wrap .i64 (.sub (.a 1) (.c 576460752303423488)))) (by kernel_rfl) (by kernel_rfl) (by kernel_rfl)
    have e : IntKind.i64.wrap (lowF n 59 - 576460752303423488) = sgnF n 59 := by
      simp only [wrapI, lowF, sgnF] at hc ⊢
      omega
    rw [← e]
    exact h
  · have hh : Holds (fun j => [n, lowF n 59].getD j 0) [.ne (.and .i64 (.shr (.a 1) 58) (.c 1)) 1] := holds_cons (by show _ ≠ _; rw [hb]; exact hc) holds_nil
    have h := retV hh (rlt59 n hn) (by kernel_rfl) (by kernel_rfl) (f := 21) (args := [.sx .i64 (.a 0), (.v (.int .i64 (.ofNat 59)))]) (v := .sx .i64 (.a 1)) (by kernel_rfl) (by kernel_rfl) (by kernel_rfl)
    have e : lowF n 59 = sgnF n 59 := by
      simp only [lowF, sgnF] at hc ⊢
      omega
    rw [← e]
    exact h

theorem rfits59 (n : Int) (hn : In n) : Ret Try.prog 17 [.int .i64 n, .int .i64 (59 : Nat)] (.bool (sgnF n 59 == n)) := by
  have hb : (SX.eval (fun _ => n) (.shr (.a 0) 58)) = n / 2 ^ 58 := by show n.fdiv (2 ^ 58) = _; rw [fdivP]
  have p := (pl59 n hn).fit
  obtain ⟨h1, h2⟩ := id hn
  by_cases hc : n / 2 ^ 58 = 0
  · have hh : Holds (fun _ => n) [.is (.shr (.a 0) 58) 0] := holds_cons (hb.trans hc) holds_nil
    have h := retV hh tabNil rfl rfl (f := 17) (args := [.sx .i64 (.a 0), (.v (.int .i64 (.ofNat 59)))]) (v := .v (.bool true)) (by kernel_rfl) (by kernel_rfl) (by kernel_rfl)
    have e : (sgnF n 59 == n) = true := by
      rw [beq_iff_eq, p]
      simp only [Nat.reduceSub] at *
      omega
    rw [e]
    exact h
  · have hh : Holds (fun _ => n) [.ne (.shr (.a 0) 58) 0] := holds_cons (by show _ ≠ _; rw [hb]; exact hc) holds_nil
    have h := retV hh tabNil rfl rfl (f := 17) (args := [.sx .i64 (.a 0), (.v (.int .i64 (.ofNat 59)))]) (v := .sb (.eq (.shr (.a 0) 58) (.c (-1)))) (by kernel_rfl) (by kernel_rfl) (by kernel_rfl)
    have e : (sgnF n 59 == n) = (n.fdiv (2 ^ 58) == -1) := by
      rw [Bool.eq_iff_iff, beq_iff_eq, beq_iff_eq, p, fdivP]
      simp only [Nat.reduceSub] at *
      omega
    rw [e]
    exact h

theorem rft59 (n : Int) (hn : In n) {b : Bool} (h : (sgnF n 59 == n) = b) : TabOK Try.prog (fun _ => n) sl0 [(17, [.sx .i64 (.a 0), (.v (.int .i64 (.ofNat 59)))], .v (.bool b))] := by
  intro x hx
  simp only [List.mem_cons, List.not_mem_nil, or_false] at hx
  subst hx
  subst h
  exact rfits59 n hn

theorem rwide59 (n : Int) (hn : In n) : Ret Try.prog 19 [.int .i64 n, .int .i64 (59 : Nat)] (.bool (sgnF n 59 == n || lowF n 59 == n)) := by
  cases hf : (sgnF n 59 == n) with
  | true =>
    have h := retV (val := fun _ => n) (F := []) holds_nil (rft59 n hn hf) (by kernel_rfl) (by kernel_rfl) (f := 19) (args := [.sx .i64 (.a 0), (.v (.int .i64 (.ofNat 59)))]) (v := .v (.bool true)) (by kernel_rfl) (by kernel_rfl) (by kernel_rfl)
    exact h
  | false =>
    have p := (pl59 n hn).fit
    rw [beq_eq_false_iff_ne] at hf
    obtain ⟨h1, h2⟩ := id hn
    have pl := (pl59 n hn).low
    by_cases hc : 1 ≤ n
    · have hh : Holds (fun _ => n) [.ge (.a 0) 1] := holds_cons hc holds_nil
      have h := retV hh (rft59 n hn (beq_eq_false_iff_ne.2 hf)) (by kernel_rfl) (by kernel_rfl) (f := 19) (args := [.sx .i64 (.a 0), (.v (.int .i64 (.ofNat 59)))]) (v := .sb (.eq (.shr (.a 0) 59) (.c 0))) (by kernel_rfl) (by kernel_rfl) (by kernel_rfl)
      have e : (false || lowF n 59 == n) = (n.fdiv (2 ^ 59) == 0) := by
        rw [Bool.false_or, Bool.eq_iff_iff, beq_iff_eq, beq_iff_eq, pl, fdivP]
        omega
      rw [e]
      exact h
    · have hh : Holds (fun _ => n) [.le (.a 0) 0] := holds_cons (show n ≤ 0 by omega) holds_nil
      have h := retV hh (rft59 n hn (beq_eq_false_iff_ne.2 hf)) (by kernel_rfl) (by kernel_rfl) (f := 19) (args := [.sx .i64 (.a 0), (.v (.int .i64 (.ofNat 59)))]) (v := .v (.bool false)) (by kernel_rfl) (by kernel_rfl) (by kernel_rfl)
      have e : (false || lowF n 59 == n) = false := by
        rw [Bool.false_or, beq_eq_false_iff_ne]
        intro hl
        rw [pl] at hl
        simp only [Nat.reduceSub] at *
        apply hf
        rw [p]
        omega
      rw [e]
      exact h

theorem rlow60 (n : Int) (hn : In n) : Ret Try.prog 23 [.int .i64 n, .int .i64 (60 : Nat)] (.int .i64 (lowF n 60)) := by
  have h := retV (val := fun _ => n) (F := []) holds_nil tabNil rfl rfl (f := 23) (args := [.sx .i64 (.a 0), (.v (.int .i64 (.ofNat 60)))]) (v := .sx .i64 (chain 60)) (by kernel_rfl) (by kernel_rfl) (by kernel_rfl)
  simp only [concs, conc, chain_eval _ 60 (by omega)] at h
  have e : IntKind.i64.wrap (n % 2 ^ 60) = lowF n 60 := by
    obtain ⟨h1, h2⟩ := hn
    simp only [wrapI, lowF]
    omega
  rw [← e]
  exact h

theorem rlt60 (n : Int) (hn : In n) : TabOK Try.prog (fun j => [n, lowF n 60].getD j 0) sl0 [(23, [.sx .i64 (.a 0), (.v (.int .i64 (.ofNat 60)))], .sx .i64 (.a 1))] := by
  intro x hx
  simp only [List.mem_cons, List.not_mem_nil, or_false] at hx
  subst hx
  exact rlow60 n hn

theorem rsign60 (n : Int) (hn : In n) : Ret Try.prog 21 [.int .i64 n, .int .i64 (60 : Nat)] (.int .i64 (sgnF n 60)) := by
  have hb : (SX.eval (fun j => [n, lowF n 60].getD j 0) (.and .i64 (.shr (.a 1) 59) (.c 1))) = lowF n 60 / 2 ^ 59 % 2 := by
    show IntKind.i64.wrap (BitVec.ofInt IntKind.i64.bits ((lowF n 60).fdiv (2 ^ 59)) &&& BitVec.ofInt IntKind.i64.bits 1).toNat = _
    rw [andOne, fdivP]
  obtain ⟨h1, h2⟩ := id hn
  by_cases hc : lowF n 60 / 2 ^ 59 % 2 = 1
  · have hh : Holds (fun j => [n, lowF n 60].getD j 0) [.is (.and .i64 (.shr (.a 1) 59) (.c 1)) 1] := holds_cons (hb.trans hc) holds_nil
    have h := retV hh (rlt60 n hn) (by kernel_rfl) (by kernel_rfl) (f := 21) (args := [.sx .i64 (.a 0), (.v (.int .i64 (.ofNat 60)))]) (v := .sx .i64 (.wrap .i64 (.sub (.a 1) (.c 1152921504606846976)))) (by kernel_rfl) (by kernel_rfl) (by kernel_rfl)
    have e : IntKind.i64.wrap (lowF n 60 - 1152921504606846976) = sgnF n 60 := by
      simp only [wrapI, lowF, sgnF] at hc ⊢
      omega
    rw [← e]
    exact h
  · have hh : Holds (fun j => [n, lowF n 60].getD j 0) [.ne (.and .i64 (.shr (.a 1) 59) (.c 1)) 1] := holds_cons (by show _ ≠ _; rw [hb]; exact hc) holds_nil
    have h := retV hh (rlt60 n hn) (by kernel_rfl) (by kernel_rfl) (f := 21) (args := [.sx .i64 (.a 0), (.v (.int .i64 (.ofNat 60)))]) (v := .sx .i64 (.a 1)) (by kernel_rfl) (by kernel_rfl) (by kernel_rfl)
    have e : lowF n 60 = sgnF n 60 := by
      simp only [lowF, sgnF] at hc ⊢
      omega
    rw [← e]
    exact h

theorem rfits60 (n : Int) (hn : In n) : Ret Try.prog 17 [.int .i64 n, .int .i64 (60 : Nat)] (.bool (sgnF n 60 == n)) := by
  have hb : (SX.eval (fun _ => n) (.shr (.a 0) 59)) = n / 2 ^ 59 := by show n.fdiv (2 ^ 59) = _; rw [fdivP]
  have p := (pl60 n hn).fit
  obtain ⟨h1, h2⟩ := id hn
  by_cases hc : n / 2 ^ 59 = 0
  · have hh : Holds (fun _ => n) [.is (.shr (.a 0) 59) 0] := holds_cons (hb.trans hc) holds_nil
    have h := retV hh tabNil rfl rfl (f := 17) (args := [.sx .i64 (.a 0), (.v (.int .i64 (.ofNat 60)))]) (v := .v (.bool true)) (by kernel_rfl) (by kernel_rfl) (by kernel_rfl)
    have e : (sgnF n 60 == n) = true := by
      rw [beq_iff_eq, p]
      simp only [Nat.reduceSub] at *
      omega
    rw [e]
    exact h
  · have hh : Holds (fun _ => n) [.ne (.shr (.a 0) 59) 0] := holds_cons (by show _ ≠ _; rw [hb]; exact hc) holds_nil
    have h := retV hh tabNil rfl rfl (f := 17) (args := [.sx .i64 (.a 0), (.v (.int .i64 (.ofNat 60)))]) (v := .sb (.eq (.shr (.a 0) 59) (.c (-1)))) (by kernel_rfl) (by kernel_rfl) (by kernel_rfl)
    have e : (sgnF n 60 == n) = (n.fdiv (2 ^ 59) == -1) := by
      rw [Bool.eq_iff_iff, beq_iff_eq, beq_iff_eq, p, fdivP]
      simp only [Nat.reduceSub] at *
      omega
    rw [e]
    exact h

theorem rft60 (n : Int) (hn : In n) {b : Bool} (h : (sgnF n 60 == n) = b) : TabOK Try.prog (fun _ => n) sl0 [(17, [.sx .i64 (.a 0), (.v (.int .i64 (.ofNat 60)))], .v (.bool b))] := by
  intro x hx
  simp only [List.mem_cons, List.not_mem_nil, or_false] at hx
  subst hx
  subst h
  exact rfits60 n hn

theorem rwide60 (n : Int) (hn : In n) : Ret Try.prog 19 [.int .i64 n, .int .i64 (60 : Nat)] (.bool (sgnF n 60 == n || lowF n 60 == n)) := by
  cases hf : (sgnF n 60 == n) with
  | true =>
    have h := retV (val := fun _ => n) (F := []) holds_nil (rft60 n hn hf) (by kernel_rfl) (by kernel_rfl) (f := 19) (args := [.sx .i64 (.a 0), (.v (.int .i64 (.ofNat 60)))]) (v := .v (.bool true)) (by kernel_rfl) (by kernel_rfl) (by kernel_rfl)
    exact h
  | false =>
    have p := (pl60 n hn).fit
    rw [beq_eq_false_iff_ne] at hf
    obtain ⟨h1, h2⟩ := id hn
    have pl := (pl60 n hn).low
    by_cases hc : 1 ≤ n
    · have hh : Holds (fun _ => n) [.ge (.a 0) 1] := holds_cons hc holds_nil
      have h := retV hh (rft60 n hn (beq_eq_false_iff_ne.2 hf)) (by kernel_rfl) (by kernel_rfl) (f := 19) (args := [.sx .i64 (.a 0), (.v (.int .i64 (.ofNat 60)))]) (v := .sb (.eq (.shr (.a 0) 60) (.c 0))) (by kernel_rfl) (by kernel_rfl) (by kernel_rfl)
      have e : (false || lowF n 60 == n) = (n.fdiv (2 ^ 60) == 0) := by
        rw [Bool.false_or, Bool.eq_iff_iff, beq_iff_eq, beq_iff_eq, pl, fdivP]
        omega
      rw [e]
      exact h
    · have hh : Holds (fun _ => n) [.le (.a 0) 0] := holds_cons (show n ≤ 0 by omega) holds_nil
      have h := retV hh (rft60 n hn (beq_eq_false_iff_ne.2 hf)) (by kernel_rfl) (by kernel_rfl) (f := 19) (args := [.sx .i64 (.a 0), (.v (.int .i64 (.ofNat 60)))]) (v := .v (.bool false)) (by kernel_rfl) (by kernel_rfl) (by kernel_rfl)
      have e : (false || lowF n 60 == n) = false := by
        rw [Bool.false_or, beq_eq_false_iff_ne]
        intro hl
        rw [pl] at hl
        simp only [Nat.reduceSub] at *
        apply hf
        rw [p]
        omega
      rw [e]
      exact h

theorem rlow61 (n : Int) (hn : In n) : Ret Try.prog 23 [.int .i64 n, .int .i64 (61 : Nat)] (.int .i64 (lowF n 61)) := by
  have h := retV (val := fun _ => n) (F := []) holds_nil tabNil rfl rfl (f := 23) (args := [.sx .i64 (.a 0), (.v (.int .i64 (.ofNat 61)))]) (v := .sx .i64 (chain 61)) (by kernel_rfl) (by kernel_rfl) (by kernel_rfl)
  simp only [concs, conc, chain_eval _ 61 (by omega)] at h
  have e : IntKind.i64.wrap (n % 2 ^ 61) = lowF n 61 := by
    obtain ⟨h1, h2⟩ := hn
    simp only [wrapI, lowF]
    omega
  rw [← e]
  exact h

theorem rlt61 (n : Int) (hn : In n) : TabOK Try.prog (fun j => [n, lowF n 61].getD j 0) sl0 [(23, [.sx .i64 (.a 0), (.v (.int .i64 (.ofNat 61)))], .sx .i64 (.a 1))] := by
  intro x hx
  simp only [List.mem_cons, List.not_mem_nil, or_false] at hx
  subst hx
  exact rlow61 n hn

theorem rsign61 (n : Int) (hn : In n) : Ret Try.prog 21 [.int .i64 n, .int .i64 (61 : Nat)] (.int .i64 (sgnF n 61)) := by
  have hb : (SX.eval (fun j => [n, lowF n 61].getD j 0) (.and .i64 (.shr (.a 1) 60) (.c 1))) = lowF n 61 / 2 ^ 60 % 2 := by
    show IntKind.i64.wrap (BitVec.ofInt IntKind.i64.bits ((lowF n 61).fdiv (2 ^ 60)) &&& BitVec.ofInt IntKind.i64.bits 1).toNat = _
    rw [andOne, fdivP]
  obtain ⟨h1, h2⟩ := id hn
  by_cases hc : lowF n 61 / 2 ^ 60 % 2 = 1
  · have hh : Holds (fun j => [n, lowF n 61].getD j 0) [.is (.and .i64 (.shr (.a 1) 60) (.c 1)) 1] := holds_cons (hb.trans hc) holds_nil
    have h := retV hh (rlt61 n hn) (by kernel_rfl) (by kernel_rfl) (f := 21) (args := [.sx .i64 (.a 0), (.v (.int .i64 (.ofNat 61)))]) (v := .sx .i64 (.wrap .i64 (.sub (.a 1) (.c 2305843009213693952)))) (by kernel_rfl) (by kernel_rfl) (by kernel_rfl)
    have e : IntKind.i64.wrap (lowF n 61 - 2305843009213693952) = sgnF n 61 := by
      simp only [wrapI, lowF, sgnF] at hc ⊢
      omega
    rw [← e]
    exact h
  · have hh : Holds (fun j => [n, lowF n 61].getD j 0) [.ne (.and .i64 (.shr (.a 1) 60) (.c 1)) 1] := holds_cons (by show _ ≠ _; rw [hb]; exact hc) holds_nil
    have h := retV hh (rlt61 n hn) (by kernel_rfl) (by kernel_rfl) (f := 21) (args := [.sx .i64 (.a 0), (.v (.int .i64 (.ofNat 61)))]) (v := .sx .i64 (.a 1)) (by kernel_rfl) (by kernel_rfl) (by kernel_rfl)
    have e : lowF n 61 = sgnF n 61 := by
      simp only [lowF, sgnF] at hc ⊢
      omega
    rw [← e]
    exact h

theorem rfits61 (n : Int) (hn : In n) : Ret Try.prog 17 [.int .i64 n, .int .i64 (61 : Nat)] (.bool (sgnF n 61 == n)) := by
  have hb : (SX.eval (fun _ => n) (.shr (.a 0) 60)) = n / 2 ^ 60 := by show n.fdiv (2 ^ 60) = _; rw [fdivP]
  have p := (pl61 n hn).fit
  obtain ⟨h1, h2⟩ := id hn
  by_cases hc : n / 2 ^ 60 = 0
  · have hh : Holds (fun _ => n) [.is (.shr (.a 0) 60) 0] := holds_cons (hb.trans hc) holds_nil
    have h := retV hh tabNil rfl rfl (f := 17) (args := [.sx .i64 (.a 0), (.v (.int .i64 (.ofNat 61)))]) (v := .v (.bool true)) (by kernel_rfl) (by kernel_rfl) (by kernel_rfl)
    have e : (sgnF n 61 == n) = true := by
      rw [beq_iff_eq, p]
      simp only [Nat.reduceSub] at *
      omega
    rw [e]
    exact h
  · have hh : Holds (fun _ => n) [.ne (.shr (.a 0) 60) 0] := holds_cons (by show _ ≠ _; rw [hb]; exact hc) holds_nil
    have h := retV hh tabNil rfl rfl (f := 17) (args := [.sx .i64 (.a 0), (.v (.int .i64 (.ofNat 61)))]) (v := .sb (.eq (.shr (.a 0) 60) (.c (-1)))) (by kernel_rfl) (by kernel_rfl) (by kernel_rfl)
    have e : (sgnF n 61 == n) = (n.fdiv (2 ^ 60) == -1) := by
      rw [Bool.eq_iff_iff, beq_iff_eq, beq_iff_eq, p, fdivP]
      simp only [Nat.reduceSub] at *
      omega
    rw [e]
    exact h

theorem rft61 (n : Int) (hn : In n) {b : Bool} (h : (sgnF n 61 == n) = b) : TabOK Try.prog (fun _ => n) sl0 [(17, [.sx .i64 (.a 0), (.v (.int .i64 (.ofNat 61)))], .v (.bool b))] := by
  intro x hx
  simp only [List.mem_cons, List.not_mem_nil, or_false] at hx
  subst hx
  subst h
  exact rfits61 n hn

theorem rwide61 (n : Int) (hn : In n) : Ret Try.prog 19 [.int .i64 n, .int .i64 (61 : Nat)] (.bool (sgnF n 61 == n || lowF n 61 == n)) := by
  cases hf : (sgnF n 61 == n) with
  | true =>
    have h := retV (val := fun _ => n) (F := []) holds_nil (rft61 n hn hf) (by kernel_rfl) (by kernel_rfl) (f := 19) (args := [.sx .i64 (.a 0), (.v (.int .i64 (.ofNat 61)))]) (v := .v (.bool true)) (by kernel_rfl) (by kernel_rfl) (by kernel_rfl)
    exact h
  | false =>
    have p := (pl61 n hn).fit
    rw [beq_eq_false_iff_ne] at hf
    obtain ⟨h1, h2⟩ := id hn
    have pl := (pl61 n hn).low
    by_cases hc : 1 ≤ n
    · have hh : Holds (fun _ => n) [.ge (.a 0) 1] := holds_cons hc holds_nil
      have h := retV hh (rft61 n hn (beq_eq_false_iff_ne.2 hf)) (by kernel_rfl) (by kernel_rfl) (f := 19) (args := [.sx .i64 (.a 0), (.v (.int .i64 (.ofNat 61)))]) (v := .sb (.eq (.shr (.a 0) 61) (.c 0))) (by kernel_rfl) (by kernel_rfl) (by kernel_rfl)
      have e : (false || lowF n 61 == n) = (n.fdiv (2 ^ 61) == 0) := by
        rw [Bool.false_or, Bool.eq_iff_iff, beq_iff_eq, beq_iff_eq, pl, fdivP]
        omega
      rw [e]
      exact h
    · have hh : Holds (fun _ => n) [.le (.a 0) 0] := holds_cons (show n ≤ 0 by omega) holds_nil
      have h := retV hh (rft61 n hn (beq_eq_false_iff_ne.2 hf)) (by kernel_rfl) (by kernel_rfl) (f := 19) (args := [.sx .i64 (.a 0), (.v (.int .i64 (.ofNat 61)))]) (v := .v (.bool false)) (by kernel_rfl) (by kernel_rfl) (by kernel_rfl)
      have e : (false || lowF n 61 == n) = false := by
        rw [Bool.false_or, beq_eq_false_iff_ne]
        intro hl
        rw [pl] at hl
        simp only [Nat.reduceSub] at *
        apply hf
        rw [p]
        omega
      rw [e]
      exact h

theorem rlow62 (n : Int) (hn : In n) : Ret Try.prog 23 [.int .i64 n, .int .i64 (62 : Nat)] (.int .i64 (lowF n 62)) := by
  have h := retV (val := fun _ => n) (F := []) holds_nil tabNil rfl rfl (f := 23) (args := [.sx .i64 (.a 0), (.v (.int .i64 (.ofNat 62)))]) (v := .sx .i64 (chain 62)) (by kernel_rfl) (by kernel_rfl) (by kernel_rfl)
  simp only [concs, conc, chain_eval _ 62 (by omega)] at h
  have e : IntKind.i64.wrap (n % 2 ^ 62) = lowF n 62 := by
    obtain ⟨h1, h2⟩ := hn
    simp only [wrapI, lowF]
    omega
  rw [← e]
  exact h

theorem rlt62 (n : Int) (hn : In n) : TabOK Try.prog (fun j => [n, lowF n 62].getD j 0) sl0 [(23, [.sx .i64 (.a 0), (.v (.int .i64 (.ofNat 62)))], .sx .i64 (.a 1))] := by
  intro x hx
  simp only [List.mem_cons, List.not_mem_nil, or_false] at hx
  subst hx
  exact rlow62 n hn

theorem rsign62 (n : Int) (hn : In n) : Ret Try.prog 21 [.int .i64 n, .int .i64 (62 : Nat)] (.int .i64 (sgnF n 62)) := by
  have hb : (SX.eval (fun j => [n, lowF n 62].getD j 0) (.and .i64 (.shr (.a 1) 61) (.c 1))) = lowF n 62 / 2 ^ 61 % 2 := by
    show IntKind.i64.wrap (BitVec.ofInt IntKind.i64.bits ((lowF n 62).fdiv (2 ^ 61)) &&& BitVec.ofInt IntKind.i64.bits 1).toNat = _
    rw [andOne, fdivP]
  obtain ⟨h1, h2⟩ := id hn
  by_cases hc : lowF n 62 / 2 ^ 61 % 2 = 1
  · have hh : Holds (fun j => [n, lowF n 62].getD j 0) [.is (.and .i64 (.shr (.a 1) 61) (.c 1)) 1] := holds_cons (hb.trans hc) holds_nil
    have h := retV hh (rlt62 n hn) (by kernel_rfl) (by kernel_rfl) (f := 21) (args := [.sx .i64 (.a 0), (.v (.int .i64 (.ofNat 62)))]) (v := .sx .i64 (.wrap .i64 (.sub (.a 1) (.c 4611686018427387904)))) (by kernel_rfl) (by kernel_rfl) (by kernel_rfl)
    have e : IntKind.i64.wrap (lowF n 62 - 4611686018427387904) = sgnF n 62 := by
      simp only [wrapI, lowF, sgnF] at hc ⊢
      omega
    rw [← e]
    exact h
  · have hh : Holds (fun j => [n, lowF n 62].getD j 0) [.ne (.and .i64 (.shr (.a 1) 61) (.c 1)) 1] := holds_cons (by show _ ≠ _; rw [hb]; exact hc) holds_nil
    have h := retV hh (rlt62 n hn) (by kernel_rfl) (by kernel_rfl) (f := 21) (args := [.sx .i64 (.a 0), (.v (.int .i64 (.ofNat 62)))]) (v := .sx .i64 (.a 1)) (by kernel_rfl) (by kernel_rfl) (by kernel_rfl)
    have e : lowF n 62 = sgnF n 62 := by
      simp only [lowF, sgnF] at hc ⊢
      omega
    rw [← e]
    exact h

theorem rfits62 (n : Int) (hn : In n) : Ret Try.prog 17 [.int .i64 n, .int .i64 (62 : Nat)] (.bool (sgnF n 62 == n)) := by
  have hb : (SX.eval (fun _ => n) (.shr (.a 0) 61)) = n / 2 ^ 61 := by show n.fdiv (2 ^ 61) = _; rw [fdivP]
  have p := (pl62 n hn).fit
  obtain ⟨h1, h2⟩ := id hn
  by_cases hc : n / 2 ^ 61 = 0
  · have hh : Holds (fun _ => n) [.is (.shr (.a 0) 61) 0] := holds_cons (hb.trans hc) holds_nil
    have h := retV hh tabNil rfl rfl (f := 17) (args := [.sx .i64 (.a 0), (.v (.int .i64 (.ofNat 62)))]) (v := .v (.bool true)) (by kernel_rfl) (by kernel_rfl) (by kernel_rfl)
    have e : (sgnF n 62 == n) = true := by
      rw [beq_iff_eq, p]
      simp only [Nat.reduceSub] at *
      omega
    rw [e]
    exact h
  · have hh : Holds (fun _ => n) [.ne (.shr (.a 0) 61) 0] := holds_cons (by show _ ≠ _; rw [hb]; exact hc) holds_nil
    have h := retV hh tabNil rfl rfl (f := 17) (args := [.sx .i64 (.a 0), (.v (.int .i64 (.ofNat 62)))]) (v := .sb (.eq (.shr (.a 0) 61) (.c (-1)))) (by kernel_rfl) (by kernel_rfl) (by kernel_rfl)
    have e : (sgnF n 62 == n) = (n.fdiv (2 ^ 61) == -1) := by
      rw [Bool.eq_iff_iff, beq_iff_eq, beq_iff_eq, p, fdivP]
      simp only [Nat.reduceSub] at *
      omega
    rw [e]
    exact h

theorem rft62 (n : Int) (hn : In n) {b : Bool} (h : (sgnF n 62 == n) = b) : TabOK Try.prog (fun _ => n) sl0 [(17, [.sx .i64 (.a 0), (.v (.int .i64 (.ofNat 62)))], .v (.bool b))] := by
  intro x hx
  simp only [List.mem_cons, List.not_mem_nil, or_false] at hx
  subst hx
  subst h
  exact rfits62 n hn

theorem rwide62 (n : Int) (hn : In n) : Ret Try.prog 19 [.int .i64 n, .int .i64 (62 : Nat)] (.bool (sgnF n 62 == n || lowF n 62 == n)) := by
  cases hf : (sgnF n 62 == n) with
  | true =>
    have h := retV (val := fun _ => n) (F := []) holds_nil (rft62 n hn hf) (by kernel_rfl) (by kernel_rfl) (f := 19) (args := [.sx .i64 (.a 0), (.v (.int .i64 (.ofNat 62)))]) (v := .v (.bool true)) (by kernel_rfl) (by kernel_rfl) (by kernel_rfl)
    exact h
  | false =>
    have p := (pl62 n hn).fit
    rw [beq_eq_false_iff_ne] at hf
    obtain ⟨h1, h2⟩ := id hn
    have pl := (pl62 n hn).low
    by_cases hc : 1 ≤ n
    · have hh : Holds (fun _ => n) [.ge (.a 0) 1] := holds_cons hc holds_nil
      have h := retV hh (rft62 n hn (beq_eq_false_iff_ne.2 hf)) (by kernel_rfl) (by kernel_rfl) (f := 19) (args := [.sx .i64 (.a 0), (.v (.int .i64 (.ofNat 62)))]) (v := .sb (.eq (.shr (.a 0) 62) (.c 0))) (by kernel_rfl) (by kernel_rfl) (by kernel_rfl)
      have e : (false || lowF n 62 == n) = (n.fdiv (2 ^ 62) == 0) := by
        rw [Bool.false_or, Bool.eq_iff_iff, beq_iff_eq, beq_iff_eq, pl, fdivP]
        omega
      rw [e]
      exact h
    · have hh : Holds (fun _ => n) [.le (.a 0) 0] := holds_cons (show n ≤ 0 by omega) holds_nil
      have h := retV hh (rft62 n hn (beq_eq_false_iff_ne.2 hf)) (by kernel_rfl) (by kernel_rfl) (f := 19) (args := [.sx .i64 (.a 0), (.v (.int .i64 (.ofNat 62)))]) (v := .v (.bool false)) (by kernel_rfl) (by kernel_rfl) (by kernel_rfl)
      have e : (false || lowF n 62 == n) = false := by
        rw [Bool.false_or, beq_eq_false_iff_ne]
        intro hl
        rw [pl] at hl
        simp only [Nat.reduceSub] at *
        apply hf
        rw [p]
        omega
      rw [e]
      exact h

theorem rlow63 (n : Int) (hn : In n) : Ret Try.prog 23 [.int .i64 n, .int .i64 (63 : Nat)] (.int .i64 (lowF n 63)) := by
  have h := retV (val := fun _ => n) (F := []) holds_nil tabNil rfl rfl (f := 23) (args := [.sx .i64 (.a 0), (.v (.int .i64 (.ofNat 63)))]) (v := .sx .i64 (chain 63)) (by kernel_rfl) (by kernel_rfl) (by kernel_rfl)
  simp only [concs, conc, chain_eval _ 63 (by omega)] at h
  have e : IntKind.i64.wrap (n % 2 ^ 63) = lowF n 63 := by
    obtain ⟨h1, h2⟩ := hn
    simp only [wrapI, lowF]
    omega
  rw [← e]
  exact h

theorem rlt63 (n : Int) (hn : In n) : TabOK Try.prog (fun j => [n, lowF n 63].getD j 0) sl0 [(23, [.sx .i64 (.a 0), (.v (.int .i64 (.ofNat 63)))], .sx .i64 (.a 1))] := by
  intro x hx
  simp only [List.mem_cons, List.not_mem_nil, or_false] at hx
  subst hx
  exact rlow63 n hn

theorem rsign63 (n : Int) (hn : In n) : Ret Try.prog 21 [.int .i64 n, .int .i64 (63 : Nat)] (.int .i64 (sgnF n 63)) := by
  have hb : (SX.eval (fun j => [n, lowF n 63].getD j 0) (.and .i64 (.shr (.a 1) 62) (.c 1))) = lowF n 63 / 2 ^ 62 % 2 := by
    show IntKind.i64.wrap (BitVec.ofInt IntKind.i64.bits ((lowF n 63).fdiv (2 ^ 62)) &&& BitVec.ofInt IntKind.i64.bits 1).toNat = _
    rw [andOne, fdivP]
  obtain ⟨h1, h2⟩ := id hn
  by_cases hc : lowF n 63 / 2 ^ 62 % 2 = 1
  · have hh : Holds (fun j => [n, lowF n 63].getD j 0) [.is (.and .i64 (.shr (.a 1) 62) (.c 1)) 1] := holds_cons (hb.trans hc) holds_nil
    have h := retV hh (rlt63 n hn) (by kernel_rfl) (by kernel_rfl) (f := 21) (args := [.sx .i64 (.a 0), (.v (.int .i64 (.ofNat 63)))]) (v := .sx .i64 (.wrap .i64 (.sub (.a 1) (.c (-9223372036854775808))))) (by kernel_rfl) (by kernel_rfl) (by kernel_rfl)
    have e : IntKind.i64.wrap (lowF n 63 - (-9223372036854775808)) = sgnF n 63 := by
      simp only [wrapI, lowF, sgnF] at hc ⊢
      omega
    rw [← e]
    exact h
  · have hh : Holds (fun j => [n, lowF n 63].getD j 0) [.ne (.and .i64 (.shr (.a 1) 62) (.c 1)) 1] := holds_cons (by show _ ≠ _; rw [hb]; exact hc) holds_nil
    have h := retV hh (rlt63 n hn) (by kernel_rfl) (by kernel_rfl) (f := 21) (args := [.sx .i64 (.a 0), (.v (.int .i64 (.ofNat 63)))]) (v := .sx .i64 (.a 1)) (by kernel_rfl) (by kernel_rfl) (by kernel_rfl)
    have e : lowF n 63 = sgnF n 63 := by
      simp only [lowF, sgnF] at hc ⊢
      omega
    rw [← e]
    exact h

theorem rfits63 (n : Int) (hn : In n) : Ret Try.prog 17 [.int .i64 n, .int .i64 (63 : Nat)] (.bool (sgnF n 63 == n)) := by
  have hb : (SX.eval (fun _ => n) (.shr (.a 0) 62)) = n / 2 ^ 62 := by show n.fdiv (2 ^ 62) = _; rw [fdivP]
  have p := (pl63 n hn).fit
  obtain ⟨h1, h2⟩ := id hn
  by_cases hc : n / 2 ^ 62 = 0
  · have hh : Holds (fun _ => n) [.is (.shr (.a 0) 62) 0] := holds_cons (hb.trans hc) holds_nil
    have h := retV hh tabNil rfl rfl (f := 17) (args := [.sx .i64 (.a 0), (.v (.int .i64 (.ofNat 63)))]) (v := .v (.bool true)) (by kernel_rfl) (by kernel_rfl) (by kernel_rfl)
    have e : (sgnF n 63 == n) = true := by
      rw [beq_iff_eq, p]
      simp only [Nat.reduceSub] at *
      omega
    rw [e]
    exact h
  · have hh : Holds (fun _ => n) [.ne (.shr (.a 0) 62) 0] := holds_cons (by show _ ≠ _; rw [hb]; exact hc) holds_nil
    have h := retV hh tabNil rfl rfl (f := 17) (args := [.sx .i64 (.a 0), (.v (.int .i64 (.ofNat 63)))]) (v := .sb (.eq (.shr (.a 0) 62) (.c (-1)))) (by kernel_rfl) (by kernel_rfl) (by kernel_rfl)
    have e : (sgnF n 63 == n) = (n.fdiv (2 ^ 62) == -1) := by
      rw [Bool.eq_iff_iff, beq_iff_eq, beq_iff_eq, p, fdivP]
      simp only [Nat.reduceSub] at *
      omega
    rw [e]
    exact h

theorem rft63 (n : Int) (hn : In n) {b : Bool} (h : (sgnF n 63 == n) = b) : TabOK Try.prog (fun _ => n) sl0 [(17, [.sx .i64 (.a 0), (.v (.int .i64 (.ofNat 63)))], .v (.bool b))] := by
  intro x hx
  simp only [List.mem_cons, List.not_mem_nil, or_false] at hx
  subst hx
  subst h
  exact rfits63 n hn

theorem rwide63 (n : Int) (hn : In n) : Ret Try.prog 19 [.int .i64 n, .int .i64 (63 : Nat)] (.bool (sgnF n 63 == n || lowF n 63 == n)) := by
  cases hf : (sgnF n 63 == n) with
  | true =>
    have h := retV (val := fun _ => n) (F := []) holds_nil (rft63 n hn hf) (by kernel_rfl) (by kernel_rfl) (f := 19) (args := [.sx .i64 (.a 0), (.v (.int .i64 (.ofNat 63)))]) (v := .v (.bool true)) (by kernel_rfl) (by kernel_rfl) (by kernel_rfl)
    exact h
  | false =>
    have p := (pl63 n hn).fit
    rw [beq_eq_false_iff_ne] at hf
    obtain ⟨h1, h2⟩ := id hn
    have pl := (pl63 n hn).low
    by_cases hc : 1 ≤ n
    · have hh : Holds (fun _ => n) [.ge (.a 0) 1] := holds_cons hc holds_nil
      have h := retV hh (rft63 n hn (beq_eq_false_iff_ne.2 hf)) (by kernel_rfl) (by kernel_rfl) (f := 19) (args := [.sx .i64 (.a 0), (.v (.int .i64 (.ofNat 63)))]) (v := .sb (.eq (.shr (.a 0) 63) (.c 0))) (by kernel_rfl) (by kernel_rfl) (by kernel_rfl)
      have e : (false || lowF n 63 == n) = (n.fdiv (2 ^ 63) == 0) := by
        rw [Bool.false_or, Bool.eq_iff_iff, beq_iff_eq, beq_iff_eq, pl, fdivP]
        omega
      rw [e]
      exact h
    · have hh : Holds (fun _ => n) [.le (.a 0) 0] := holds_cons (show n ≤ 0 by omega) holds_nil
      have h := retV hh (rft63 n hn (beq_eq_false_iff_ne.2 hf)) (by kernel_rfl) (by kernel_rfl) (f := 19) (args := [.sx .i64 (.a 0), (.v (.int .i64 (.ofNat 63)))]) (v := .v (.bool false)) (by kernel_rfl) (by kernel_rfl) (by kernel_rfl)
      have e : (false || lowF n 63 == n) = false := by
        rw [Bool.false_or, beq_eq_false_iff_ne]
        intro hl
        rw [pl] at hl
        simp only [Nat.reduceSub] at *
        apply hf
        rw [p]
        omega
      rw [e]
      exact h

theorem rlow64 (n : Int) (hn : In n) : Ret Try.prog 23 [.int .i64 n, .int .i64 (64 : Nat)] (.int .i64 (lowF n 64)) := by
  have h := retV (val := fun _ => n) (F := []) holds_nil tabNil rfl rfl (f := 23) (args := [.sx .i64 (.a 0), (.v (.int .i64 (.ofNat 64)))]) (v := .sx .i64 (chain 64)) (by kernel_rfl) (by kernel_rfl) (by kernel_rfl)
  simp only [concs, conc, chain_eval _ 64 (by omega)] at h
  have e : IntKind.i64.wrap (n % 2 ^ 64) = lowF n 64 := by
    obtain ⟨h1, h2⟩ := hn
    simp only [wrapI, lowF, if_true]
    omega
  rw [← e]
  exact h

theorem rlt64 (n : Int) (hn : In n) : TabOK Try.prog (fun j => [n, lowF n 64].getD j 0) sl0 [(23, [.sx .i64 (.a 0), (.v (.int .i64 (.ofNat 64)))], .sx .i64 (.a 1))] := by
  intro x hx
  simp only [List.mem_cons, List.not_mem_nil, or_false] at hx
  subst hx
  exact rlow64 n hn

theorem rsign64 (n : Int) (hn : In n) : Ret Try.prog 21 [.int .i64 n, .int .i64 (64 : Nat)] (.int .i64 (sgnF n 64)) := by
  have h := retV (val := fun j => [n, lowF n 64].getD j 0) (F := []) holds_nil (rlt64 n hn) (by kernel_rfl) (by kernel_rfl) (f := 21) (args := [.sx .i64 (.a 0), (.v (.int .i64 (.ofNat 64)))]) (v := .sx .i64 (.a 1)) (by kernel_rfl) (by kernel_rfl) (by kernel_rfl)
  obtain ⟨h1, h2⟩ := hn
  have e : lowF n 64 = sgnF n 64 := by
    simp only [lowF, sgnF, if_true]
    omega
  rw [← e]
  exact h

theorem rfits64 (n : Int) (hn : In n) : Ret Try.prog 17 [.int .i64 n, .int .i64 (64 : Nat)] (.bool (sgnF n 64 == n)) := by
  have hb : (SX.eval (fun _ => n) (.shr (.a 0) 63)) = n / 2 ^ 63 := by show n.fdiv (2 ^ 63) = _; rw [fdivP]
  have p := (pl64 n hn).fit
  obtain ⟨h1, h2⟩ := id hn
  by_cases hc : n / 2 ^ 63 = 0
  · have hh : Holds (fun _ => n) [.is (.shr (.a 0) 63) 0] := holds_cons (hb.trans hc) holds_nil
    have h := retV hh tabNil rfl rfl (f := 17) (args := [.sx .i64 (.a 0), (.v (.int .i64 (.ofNat 64)))]) (v := .v (.bool true)) (by kernel_rfl) (by kernel_rfl) (by kernel_rfl)
    have e : (sgnF n 64 == n) = true := by
      rw [beq_iff_eq, p]
      simp only [Nat.reduceSub] at *
      omega
    rw [e]
    exact h
  · have hh : Holds (fun _ => n) [.ne (.shr (.a 0) 63) 0] := holds_cons (by show _ ≠ _; rw [hb]; exact hc) holds_nil
    have h := retV hh tabNil rfl rfl (f := 17) (args := [.sx .i64 (.a 0), (.v (.int .i64 (.ofNat 64)))]) (v := .sb (.eq (.shr (.a 0) 63) (.c (-1)))) (by kernel_rfl) (by kernel_rfl) (by kernel_rfl)
    have e : (sgnF n 64 == n) = (n.fdiv (2 ^ 63) == -1) := by
      rw [Bool.eq_iff_iff, beq_iff_eq, beq_iff_eq, p, fdivP]
      simp only [Nat.reduceSub] at *
      omega
    rw [e]
    exact h

theorem rft64 (n : Int) (hn : In n) {b : Bool} (h : (sgnF n 64 == n) = b) : TabOK Try.prog (fun _ => n) sl0 [(17, [.sx .i64 (.a 0), (.v (.int .i64 (.ofNat 64)))], .v (.bool b))] := by
  intro x hx
  simp only [List.mem_cons, List.not_mem_nil, or_false] at hx
  subst hx
  subst h
  exact rfits64 n hn

theorem rwide64 (n : Int) (hn : In n) : Ret Try.prog 19 [.int .i64 n, .int .i64 (64 : Nat)] (.bool (sgnF n 64 == n || lowF n 64 == n)) := by
  cases hf : (sgnF n 64 == n) with
  | true =>
    have h := retV (val := fun _ => n) (F := []) holds_nil (rft64 n hn hf) (by kernel_rfl) (by kernel_rfl) (f := 19) (args := [.sx .i64 (.a 0), (.v (.int .i64 (.ofNat 64)))]) (v := .v (.bool true)) (by kernel_rfl) (by kernel_rfl) (by kernel_rfl)
    exact h
  | false =>
    have p := (pl64 n hn).fit
    rw [beq_eq_false_iff_ne] at hf
    obtain ⟨h1, h2⟩ := id hn
    exact absurd (p.2 (by simp only [Nat.reduceSub]; omega)) hf

end Go.Proofs.Ytclgmeoofmidfaa.Fld
