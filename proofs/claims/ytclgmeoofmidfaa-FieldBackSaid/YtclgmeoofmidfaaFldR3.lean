/-
  What the document's Low, Sign, Fits and Wide do, by widths.
-/
import Derived.Test.YtclgmeoofmidfaaFldQ
import Derived.Test.YtclgmeoofmidfaaFldP
namespace Go.Proofs.Ytclgmeoofmidfaa.Fld
open Go.Sim
set_option maxRecDepth 100000

theorem rlow33 (n : Int) (hn : In n) : Ret Try.prog 23 [.int .i64 n, .int .i64 (33 : Nat)] (.int .i64 (lowF n 33)) := by
  have h := retV (val := fun _ => n) (F := []) holds_nil tabNil rfl rfl (f := 23) (args := [.sx .i64 (.a 0), (.v (.int .i64 (.ofNat 33)))]) (v := .sx .i64 (chain 33)) (by kernel_rfl) (by kernel_rfl) (by kernel_rfl)
  simp only [concs, conc, chain_eval _ 33 (by omega)] at h
  have e : IntKind.i64.wrap (n % 2 ^ 33) = lowF n 33 := by
    obtain ⟨h1, h2⟩ := hn
    simp only [wrapI, lowF]
    omega
  rw [← e]
  exact h

theorem rlt33 (n : Int) (hn : In n) : TabOK Try.prog (fun j => [n, lowF n 33].getD j 0) sl0 [(23, [.sx .i64 (.a 0), (.v (.int .i64 (.ofNat 33)))], .sx .i64 (.a 1))] := by
  intro x hx
  simp only [List.mem_cons, List.not_mem_nil, or_false] at hx
  subst hx
  exact rlow33 n hn

theorem rsign33 (n : Int) (hn : In n) : Ret Try.prog 21 [.int .i64 n, .int .i64 (33 : Nat)] (.int .i64 (sgnF n 33)) := by
  have hb : (SX.eval (fun j => [n, lowF n 33].getD j 0) (.and .i64 (.shr (.a 1) 32) (.c 1))) = lowF n 33 / 2 ^ 32 % 2 := by
    show IntKind.i64.wrap (BitVec.ofInt IntKind.i64.bits ((lowF n 33).fdiv (2 ^ 32)) &&& BitVec.ofInt IntKind.i64.bits 1).toNat = _
    rw [andOne, fdivP]
  obtain ⟨h1, h2⟩ := id hn
  by_cases hc : lowF n 33 / 2 ^ 32 % 2 = 1
  · have hh : Holds (fun j => [n, lowF n 33].getD j 0) [.is (.and .i64 (.shr (.a 1) 32) (.c 1)) 1] := holds_cons (hb.trans hc) holds_nil
    have h := retV hh (rlt33 n hn) (by kernel_rfl) (by kernel_rfl) (f := 21) (args := [.sx .i64 (.a 0), (.v (.int .i64 (.ofNat 33)))]) (v := .sx .i64 (.wrap .i64 (.sub (.a 1) (.c 8589934592)))) (by kernel_rfl) (by kernel_rfl) (by kernel_rfl)
    have e : IntKind.i64.wrap (lowF n 33 - 8589934592) = sgnF n 33 := by
      simp only [wrapI, lowF, sgnF] at hc ⊢
      omega
    rw [← e]
    exact h
  · have hh : Holds (fun j => [n, lowF n 33].getD j 0) [.ne (.and .i64 (.shr (.a 1) 32) (.c 1)) 1] := holds_cons (by show _ ≠ _; rw [hb]; exact hc) holds_nil
    have h := retV hh (rlt33 n hn) (by kernel_rfl) (by kernel_rfl) (f := 21) (args := [.sx .i64 (.a 0), (.v (.int .i64 (.ofNat 33)))]) (v := .sx .i64 (.a 1)) (by kernel_rfl) (by kernel_rfl) (by kernel_rfl)
    have e : lowF n 33 = sgnF n 33 := by
      simp only [lowF, sgnF] at hc ⊢
      omega
    rw [← e]
    exact h

theorem rfits33 (n : Int) (hn : In n) : Ret Try.prog 17 [.int .i64 n, .int .i64 (33 : Nat)] (.bool (sgnF n 33 == n)) := by
  have hb : (SX.eval (fun _ => n) (.shr (.a 0) 32)) = n / 2 ^ 32 := by show n.fdiv (2 ^ 32) = _; rw [fdivP]
  have p := (pl33 n hn).fit
  obtain ⟨h1, h2⟩ := id hn
  by_cases hc : n / 2 ^ 32 = 0
  · have hh : Holds (fun _ => n) [.is (.shr (.a 0) 32) 0] := holds_cons (hb.trans hc) holds_nil
    have h := retV hh tabNil rfl rfl (f := 17) (args := [.sx .i64 (.a 0), (.v (.int .i64 (.ofNat 33)))]) (v := .v (.bool true)) (by kernel_rfl) (by kernel_rfl) (by kernel_rfl)
    have e : (sgnF n 33 == n) = true := by
      rw [beq_iff_eq, p]
      simp only [Nat.reduceSub] at *
      omega
    rw [e]
    exact h
  · have hh : Holds (fun _ => n) [.ne (.shr (.a 0) 32) 0] := holds_cons (by show _ ≠ _; rw [hb]; exact hc) holds_nil
    have h := retV hh tabNil rfl rfl (f := 17) (args := [.sx .i64 (.a 0), (.v (.int .i64 (.ofNat 33)))]) (v := .sb (.eq (.shr (.a 0) 32) (.c (-1)))) (by kernel_rfl) (by kernel_rfl) (by kernel_rfl)
    have e : (sgnF n 33 == n) = (n.fdiv (2 ^ 32) == -1) := by
      rw [Bool.eq_iff_iff, beq_iff_eq, beq_iff_eq, p, fdivP]
      simp only [Nat.reduceSub] at *
      omega
    rw [e]
    exact h

theorem rft33 (n : Int) (hn : In n) {b : Bool} (h : (sgnF n 33 == n) = b) : TabOK Try.prog (fun _ => n) sl0 [(17, [.sx .i64 (.a 0), (.v (.int .i64 (.ofNat 33)))], .v (.bool b))] := by
  intro x hx
  simp only [List.mem_cons, List.not_mem_nil, or_false] at hx
  subst hx
  subst h
  exact rfits33 n hn

theorem rwide33 (n : Int) (hn : In n) : Ret Try.prog 19 [.int .i64 n, .int .i64 (33 : Nat)] (.bool (sgnF n 33 == n || lowF n 33 == n)) := by
  cases hf : (sgnF n 33 == n) with
  | true =>
    have h := retV (val := fun _ => n) (F := []) holds_nil (rft33 n hn hf) (by kernel_rfl) (by kernel_rfl) (f := 19) (args := [.sx .i64 (.a 0), (.v (.int .i64 (.ofNat 33)))]) (v := .v (.bool true)) (by kernel_rfl) (by kernel_rfl) (by kernel_rfl)
    exact h
  | false =>
    have p := (pl33 n hn).fit
    rw [beq_eq_false_iff_ne] at hf
    obtain ⟨h1, h2⟩ := id hn
    have pl := (pl33 n hn).low
    by_cases hc : 1 ≤ n
    · have hh : Holds (fun _ => n) [.ge (.a 0) 1] := holds_cons hc holds_nil
      have h := retV hh (rft33 n hn (beq_eq_false_iff_ne.2 hf)) (by kernel_rfl) (by kernel_rfl) (f := 19) (args := [.sx .i64 (.a 0), (.v (.int .i64 (.ofNat 33)))]) (v := .sb (.eq (.shr (.a 0) 33) (.c 0))) (by kernel_rfl) (by kernel_rfl) (by kernel_rfl)
      have e : (false || lowF n 33 == n) = (n.fdiv (2 ^ 33) == 0) := by
        rw [Bool.false_or, Bool.eq_iff_iff, beq_iff_eq, beq_iff_eq, pl, fdivP]
        omega
      rw [e]
      exact h
    · have hh : Holds (fun _ => n) [.le (.a 0) 0] := holds_cons (show n ≤ 0 by omega) holds_nil
      have h := retV hh (rft33 n hn (beq_eq_false_iff_ne.2 hf)) (by kernel_rfl) (by kernel_rfl) (f := 19) (args := [.sx .i64 (.a 0), (.v (.int .i64 (.ofNat 33)))]) (v := .v (.bool false)) (by kernel_rfl) (by kernel_rfl) (by kernel_rfl)
      have e : (false || lowF n 33 == n) = false := by
        rw [Bool.false_or, beq_eq_false_iff_ne]
        intro hl
        rw [pl] at hl
        simp only [Nat.reduceSub] at *
        apply hf
        rw [p]
        omega
      rw [e]
      exact h

theorem rlow34 (n : Int) (hn : In n) : Ret Try.prog 23 [.int .i64 n, .int .i64 (34 : Nat)] (.int .i64 (lowF n 34)) := by
  have h := retV (val := fun _ => n) (F := []) holds_nil tabNil rfl rfl (f := 23) (args := [.sx .i64 (.a 0), (.v (.int .i64 (.ofNat 34)))]) (v := .sx .i64 (chain 34)) (by kernel_rfl) (by kernel_rfl) (by kernel_rfl)
  simp only [concs, conc, chain_eval _ 34 (by omega)] at h
  have e : IntKind.i64.wrap (n % 2 ^ 34) = lowF n 34 := by
    obtain ⟨h1, h2⟩ := hn
    simp only [wrapI, lowF]
    omega
  rw [← e]
  exact h

theorem rlt34 (n : Int) (hn : In n) : TabOK Try.prog (fun j => [n, lowF n 34].getD j 0) sl0 [(23, [.sx .i64 (.a 0), (.v (.int .i64 (.ofNat 34)))], .sx .i64 (.a 1))] := by
  intro x hx
  simp only [List.mem_cons, List.not_mem_nil, or_false] at hx
  subst hx
  exact rlow34 n hn

theorem rsign34 (n : Int) (hn : In n) : Ret Try.prog 21 [.int .i64 n, .int .i64 (34 : Nat)] (.int .i64 (sgnF n 34)) := by
  have hb : (SX.eval (fun j => [n, lowF n 34].getD j 0) (.and .i64 (.shr (.a 1) 33) (.c 1))) = lowF n 34 / 2 ^ 33 % 2 := by
    show IntKind.i64.wrap (BitVec.ofInt IntKind.i64.bits ((lowF n 34).fdiv (2 ^ 33)) &&& BitVec.ofInt IntKind.i64.bits 1).toNat = _
    rw [andOne, fdivP]
  obtain ⟨h1, h2⟩ := id hn
  by_cases hc : lowF n 34 / 2 ^ 33 % 2 = 1
  · have hh : Holds (fun j => [n, lowF n 34].getD j 0) [.is (.and .i64 (.shr (.a 1) 33) (.c 1)) 1] := holds_cons (hb.trans hc) holds_nil
    have h := retV hh (rlt34 n hn) (by kernel_rfl) (by kernel_rfl) (f := 21) (args := [.sx .i64 (.a 0), (.v (.int .i64 (.ofNat 34)))]) (v := .sx .i64 (.wrap .i64 (.sub (.a 1) (.c 17179869184)))) (by kernel_rfl) (by kernel_rfl) (by kernel_rfl)
    have e : IntKind.i64.wrap (lowF n 34 - 17179869184) = sgnF n 34 := by
      simp only [wrapI, lowF, sgnF] at hc ⊢
      omega
    rw [← e]
    exact h
  · have hh : Holds (fun j => [n, lowF n 34].getD j 0) [.ne (.and .i64 (.shr (.a 1) 33) (.c 1)) 1] := holds_cons (by show _ ≠ _; rw [hb]; exact hc) holds_nil
    have h := retV hh (rlt34 n hn) (by kernel_rfl) (by kernel_rfl) (f := 21) (args := [.sx .i64 (.a 0), (.v (.int .i64 (.ofNat 34)))]) (v := .sx .i64 (.a 1)) (by kernel_rfl) (by kernel_rfl) (by kernel_rfl)
    have e : lowF n 34 = sgnF n 34 := by
      simp only [lowF, sgnF] at hc ⊢
      omega
    rw [← e]
    exact h

theorem rfits34 (n : Int) (hn : In n) : Ret Try.prog 17 [.int .i64 n, .int .i64 (34 : Nat)] (.bool (sgnF n 34 == n)) := by
  have hb : (SX.eval (fun _ => n) (.shr (.a 0) 33)) = n / 2 ^ 33 := by show n.fdiv (2 ^ 33) = _; rw [fdivP]
  have p := (pl34 n hn).fit
  obtain ⟨h1, h2⟩ := id hn
  by_cases hc : n / 2 ^ 33 = 0
  · have hh : Holds (fun _ => n) [.is (.shr (.a 0) 33) 0] := holds_cons (hb.trans hc) holds_nil
    have h := retV hh tabNil rfl rfl (f := 17) (args := [.sx .i64 (.a 0), (.v (.int .i64 (.ofNat 34)))]) (v := .v (.bool true)) (by kernel_rfl) (by kernel_rfl) (by kernel_rfl)
    have e : (sgnF n 34 == n) = true := by
      rw [beq_iff_eq, p]
      simp only [Nat.reduceSub] at *
      omega
    rw [e]
    exact h
  · have hh : Holds (fun _ => n) [.ne (.shr (.a 0) 33) 0] := holds_cons (by show _ ≠ _; rw [hb]; exact hc) holds_nil
    have h := retV hh tabNil rfl rfl (f := 17) (args := [.sx .i64 (.a 0), (.v (.int .i64 (.ofNat 34)))]) (v := .sb (.eq (.shr (.a 0) 33) (.c (-1)))) (by kernel_rfl) (by kernel_rfl) (by kernel_rfl)
    have e : (sgnF n 34 == n) = (n.fdiv (2 ^ 33) == -1) := by
      rw [Bool.eq_iff_iff, beq_iff_eq, beq_iff_eq, p, fdivP]
      simp only [Nat.reduceSub] at *
      omega
    rw [e]
    exact h

theorem rft34 (n : Int) (hn : In n) {b : Bool} (h : (sgnF n 34 == n) = b) : TabOK Try.prog (fun _ => n) sl0 [(17, [.sx .i64 (.a 0), (.v (.int .i64 (.ofNat 34)))], .v (.bool b))] := by
  intro x hx
  simp only [List.mem_cons, List.not_mem_nil, or_false] at hx
  subst hx
  subst h
  exact rfits34 n hn

theorem rwide34 (n : Int) (hn : In n) : Ret Try.prog 19 [.int .i64 n, .int .i64 (34 : Nat)] (.bool (sgnF n 34 == n || lowF n 34 == n)) := by
  cases hf : (sgnF n 34 == n) with
  | true =>
    have h := retV (val := fun _ => n) (F := []) holds_nil (rft34 n hn hf) (by kernel_rfl) (by kernel_rfl) (f := 19) (args := [.sx .i64 (.a 0), (.v (.int .i64 (.ofNat 34)))]) (v := .v (.bool true)) (by kernel_rfl) (by kernel_rfl) (by kernel_rfl)
    exact h
  | false =>
    have p := (pl34 n hn).fit
    rw [beq_eq_false_iff_ne] at hf
    obtain ⟨h1, h2⟩ := id hn
    have pl := (pl34 n hn).low
    by_cases hc : 1 ≤ n
    · have hh : Holds (fun _ => n) [.ge (.a 0) 1] := holds_cons hc holds_nil
      have h := retV hh (rft34 n hn (beq_eq_false_iff_ne.2 hf)) (by kernel_rfl) (by kernel_rfl) (f := 19) (args := [.sx .i64 (.a 0), (.v (.int .i64 (.ofNat 34)))]) (v := .sb (.eq (.shr (.a 0) 34) (.c 0))) (by kernel_rfl) (by kernel_rfl) (by kernel_rfl)
      have e : (false || lowF n 34 == n) = (n.fdiv (2 ^ 34) == 0) := by
        rw [Bool.false_or, Bool.eq_iff_iff, beq_iff_eq, beq_iff_eq, pl, fdivP]
        omega
      rw [e]
      exact h
    · have hh : Holds (fun _ => n) [.le (.a 0) 0] := holds_cons (show n ≤ 0 by omega) holds_nil
      have h := retV hh (rft34 n hn (beq_eq_false_iff_ne.2 hf)) (by kernel_rfl) (by kernel_rfl) (f := 19) (args := [.sx .i64 (.a 0), (.v (.int .i64 (.ofNat 34)))]) (v := .v (.bool false)) (by kernel_rfl) (by kernel_rfl) (by kernel_rfl)
      have e : (false || lowF n 34 == n) = false := by
        rw [Bool.false_or, beq_eq_false_iff_ne]
        intro hl
        rw [pl] at hl
        simp only [Nat.reduceSub] at *
        apply hf
        rw [p]
        omega
      rw [e]
      exact h

theorem rlow35 (n : Int) (hn : In n) : Ret Try.prog 23 [.int .i64 n, .int .i64 (35 : Nat)] (.int .i64 (lowF n 35)) := by
  have h := retV (val := fun _ => n) (F := []) holds_nil tabNil rfl rfl (f := 23) (args := [.sx .i64 (.a 0), (.v (.int .i64 (.ofNat 35)))]) (v := .sx .i64 (chain 35)) (by kernel_rfl) (by kernel_rfl) (by kernel_rfl)
  simp only [concs, conc, chain_eval _ 35 (by omega)] at h
  have e : IntKind.i64.wrap (n % 2 ^ 35) = lowF n 35 := by
    obtain ⟨h1, h2⟩ := hn
    simp only [wrapI, lowF]
    omega
  rw [← e]
  exact h

theorem rlt35 (n : Int) (hn : In n) : TabOK Try.prog (fun j => [n, lowF n 35].getD j 0) sl0 [(23, [.sx .i64 (.a 0), (.v (.int .i64 (.ofNat 35)))], .sx .i64 (.a 1))] := by
  intro x hx
  simp only [List.mem_cons, List.not_mem_nil, or_false] at hx
  subst hx
  exact rlow35 n hn

theorem rsign35 (n : Int) (hn : In n) : Ret Try.prog 21 [.int .i64 n, .int .i64 (35 : Nat)] (.int .i64 (sgnF n 35)) := by
  have hb : (SX.eval (fun j => [n, lowF n 35].getD j 0) (.and .i64 (.shr (.a 1) 34) (.c 1))) = lowF n 35 / 2 ^ 34 % 2 := by
    show IntKind.i64.wrap (BitVec.ofInt IntKind.i64.bits ((lowF n 35).fdiv (2 ^ 34)) &&& BitVec.ofInt IntKind.i64.bits 1).toNat = _
    rw [andOne, fdivP]
  obtain ⟨h1, h2⟩ := id hn
  by_cases hc : lowF n 35 / 2 ^ 34 % 2 = 1
  · have hh : Holds (fun j => [n, lowF n 35].getD j 0) [.is (.and .i64 (.shr (.a 1) 34) (.c 1)) 1] := holds_cons (hb.trans hc) holds_nil
    have h := retV hh (rlt35 n hn) (by kernel_rfl) (by kernel_rfl) (f := 21) (args := [.sx .i64 (.a 0), (.v (.int .i64 (.ofNat 35)))]) (v := .sx .i64 (.wrap .i64 (.sub (.a 1) (.c 34359738368)))) (by kernel_rfl) (by kernel_rfl) (by kernel_rfl)
    have e : IntKind.i64.wrap (lowF n 35 - 34359738368) = sgnF n 35 := by
      simp only [wrapI, lowF, sgnF] at hc ⊢
      omega
    rw [← e]
    exact h
  · have hh : Holds (fun j => [n, lowF n 35].getD j 0) [.ne (.and .i64 (.shr (.a 1) 34) (.c 1)) 1] := holds_cons (by show _ ≠ _; rw [hb]; exact hc) holds_nil
    have h := retV hh (rlt35 n hn) (by kernel_rfl) (by kernel_rfl) (f := 21) (args := [.sx .i64 (.a 0), (.v (.int .i64 (.ofNat 35)))]) (v := .sx .i64 (.a 1)) (by kernel_rfl) (by kernel_rfl) (by kernel_rfl)
    have e : lowF n 35 = sgnF n 35 := by
      simp only [lowF, sgnF] at hc ⊢
      omega
    rw [← e]
    exact h

theorem rfits35 (n : Int) (hn : In n) : Ret Try.prog 17 [.int .i64 n, .int .i64 (35 : Nat)] (.bool (sgnF n 35 == n)) := by
  have hb : (SX.eval (fun _ => n) (.shr (.a 0) 34)) = n / 2 ^ 34 := by show n.fdiv (2 ^ 34) = _; rw [fdivP]
  have p := (pl35 n hn).fit
  obtain ⟨h1, h2⟩ := id hn
  by_cases hc : n / 2 ^ 34 = 0
  · have hh : Holds (fun _ => n) [.is (.shr (.a 0) 34) 0] := holds_cons (hb.trans hc) holds_nil
    have h := retV hh tabNil rfl rfl (f := 17) (args := [.sx .i64 (.a 0), (.v (.int .i64 (.ofNat 35)))]) (v := .v (.bool true)) (by kernel_rfl) (by kernel_rfl) (by kernel_rfl)
    have e : (sgnF n 35 == n) = true := by
      rw [beq_iff_eq, p]
      simp only [Nat.reduceSub] at *
      omega
    rw [e]
    exact h
  · have hh : Holds (fun _ => n) [.ne (.shr (.a 0) 34) 0] := holds_cons (by show _ ≠ _; rw [hb]; exact hc) holds_nil
    have h := retV hh tabNil rfl rfl (f := 17) (args := [.sx .i64 (.a 0), (.v (.int .i64 (.ofNat 35)))]) (v := .sb (.eq (.shr (.a 0) 34) (.c (-1)))) (by kernel_rfl) (by kernel_rfl) (by kernel_rfl)
    have e : (sgnF n 35 == n) = (n.fdiv (2 ^ 34) == -1) := by
      rw [Bool.eq_iff_iff, beq_iff_eq, beq_iff_eq, p, fdivP]
      simp only [Nat.reduceSub] at *
      omega
    rw [e]
    exact h

theorem rft35 (n : Int) (hn : In n) {b : Bool} (h : (sgnF n 35 == n) = b) : TabOK Try.prog (fun _ => n) sl0 [(17, [.sx .i64 (.a 0), (.v (.int .i64 (.ofNat 35)))], .v (.bool b))] := by
  intro x hx
  simp only [List.mem_cons, List.not_mem_nil, or_false] at hx
  subst hx
  subst h
  exact rfits35 n hn

theorem rwide35 (n : Int) (hn : In n) : Ret Try.prog 19 [.int .i64 n, .int .i64 (35 : Nat)] (.bool (sgnF n 35 == n || lowF n 35 == n)) := by
  cases hf : (sgnF n 35 == n) with
  | true =>
    have h := retV (val := fun _ => n) (F := []) holds_nil (rft35 n hn hf) (by kernel_rfl) (by kernel_rfl) (f := 19) (args := [.sx .i64 (.a 0), (.v (.int .i64 (.ofNat 35)))]) (v := .v (.bool true)) (by kernel_rfl) (by kernel_rfl) (by kernel_rfl)
    exact h
  | false =>
    have p := (pl35 n hn).fit
    rw [beq_eq_false_iff_ne] at hf
    obtain ⟨h1, h2⟩ := id hn
    have pl := (pl35 n hn).low
    by_cases hc : 1 ≤ n
    · have hh : Holds (fun _ => n) [.ge (.a 0) 1] := holds_cons hc holds_nil
      have h := retV hh (rft35 n hn (beq_eq_false_iff_ne.2 hf)) (by kernel_rfl) (by kernel_rfl) (f := 19) (args := [.sx .i64 (.a 0), (.v (.int .i64 (.ofNat 35)))]) (v := .sb (.eq (.shr (.a 0) 35) (.c 0))) (by kernel_rfl) (by kernel_rfl) (by kernel_rfl)
      have e : (false || lowF n 35 == n) = (n.fdiv (2 ^ 35) == 0) := by
        rw [Bool.false_or, Bool.eq_iff_iff, beq_iff_eq, beq_iff_eq, pl, fdivP]
        omega
      rw [e]
      exact h
    · have hh : Holds (fun _ => n) [.le (.a 0) 0] := holds_cons (show n ≤ 0 by omega) holds_nil
      have h := retV hh (rft35 n hn (beq_eq_false_iff_ne.2 hf)) (by kernel_rfl) (by kernel_rfl) (f := 19) (args := [.sx .i64 (.a 0), (.v (.int .i64 (.ofNat 35)))]) (v := .v (.bool false)) (by kernel_rfl) (by kernel_rfl) (by kernel_rfl)
      have e : (false || lowF n 35 == n) = false := by
        rw [Bool.false_or, beq_eq_false_iff_ne]
        intro hl
        rw [pl] at hl
        simp only [Nat.reduceSub] at *
        apply hf
        rw [p]
        omega
      rw [e]
      exact h

theorem rlow36 (n : Int) (hn : In n) : Ret Try.prog 23 [.int .i64 n, .int .i64 (36 : Nat)] (.int .i64 (lowF n 36)) := by
  have h := retV (val := fun _ => n) (F := []) holds_nil tabNil rfl rfl (f := 23) (args := [.sx .i64 (.a 0), (.v (.int .i64 (.ofNat 36)))]) (v := .sx .i64 (chain 36)) (by kernel_rfl) (by kernel_rfl) (by kernel_rfl)
  simp only [concs, conc, chain_eval _ 36 (by omega)] at h
  have e : IntKind.i64.wrap (n % 2 ^ 36) = lowF n 36 := by
    obtain ⟨h1, h2⟩ := hn
    simp only [wrapI, lowF]
    omega
  rw [← e]
  exact h

theorem rlt36 (n : Int) (hn : In n) : TabOK Try.prog (fun j => [n, lowF n 36].getD j 0) sl0 [(23, [.sx .i64 (.a 0), (.v (.int .i64 (.ofNat 36)))], .sx .i64 (.a 1))] := by
  intro x hx
  simp only [List.mem_cons, List.not_mem_nil, or_false] at hx
  subst hx
  exact rlow36 n hn

theorem rsign36 (n : Int) (hn : In n) : Ret Try.prog 21 [.int .i64 n, .int .i64 (36 : Nat)] (.int .i64 (sgnF n 36)) := by
  have hb : (SX.eval (fun j => [n, lowF n 36].getD j 0) (.and .i64 (.shr (.a 1) 35) (.c 1))) = lowF n 36 / 2 ^ 35 % 2 := by
    show IntKind.i64.wrap (BitVec.ofInt IntKind.i64.bits ((lowF n 36).fdiv (2 ^ 35)) &&& BitVec.ofInt IntKind.i64.bits 1).toNat = _
    rw [andOne, fdivP]
  obtain ⟨h1, h2⟩ := id hn
  by_cases hc : lowF n 36 / 2 ^ 35 % 2 = 1
  · have hh : Holds (fun j => [n, lowF n 36].getD j 0) [.is (.and .i64 (.shr (.a 1) 35) (.c 1)) 1] := holds_cons (hb.trans hc) holds_nil
    have h := retV hh (rlt36 n hn) (by kernel_rfl) (by kernel_rfl) (f := 21) (args := [.sx .i64 (.a 0), (.v (.int .i64 (.ofNat 36)))]) (v := .sx .i64 (.wrap .i64 (.sub (.a 1) (.c 68719476736)))) (by kernel_rfl) (by kernel_rfl) (by kernel_rfl)
    have e : IntKind.i64.wrap (lowF n 36 - 68719476736) = sgnF n 36 := by
      simp only [wrapI, lowF, sgnF] at hc ⊢
      omega
    rw [← e]
    exact h
  · have hh : Holds (fun j => [n, lowF n 36].getD j 0) [.ne (.and .i64 (.shr (.a 1) 35) (.c 1)) 1] := holds_cons (by show _ ≠ _; rw [hb]; exact hc) holds_nil
    have h := retV hh (rlt36 n hn) (by kernel_rfl) (by kernel_rfl) (f := 21) (args := [.sx .i64 (.a 0), (.v (.int .i64 (.ofNat 36)))]) (v := .sx .i64 (.a 1)) (by kernel_rfl) (by kernel_rfl) (by kernel_rfl)
    have e : lowF n 36 = sgnF n 36 := by
      simp only [lowF, sgnF] at hc ⊢
      omega
    rw [← e]
    exact h

theorem rfits36 (n : Int) (hn : In n) : Ret Try.prog 17 [.int .i64 n, .int .i64 (36 : Nat)] (.bool (sgnF n 36 == n)) := by
  have hb : (SX.eval (fun _ => n) (.shr (.a 0) 35)) = n / 2 ^ 35 := by show n.fdiv (2 ^ 35) = _; rw [fdivP]
  have p := (pl36 n hn).fit
  obtain ⟨h1, h2⟩ := id hn
  by_cases hc : n / 2 ^ 35 = 0
  · have hh : Holds (fun _ => n) [.is (.shr (.a 0) 35) 0] := holds_cons (hb.trans hc) holds_nil
    have h := retV hh tabNil rfl rfl (f := 17) (args := [.sx .i64 (.a 0), (.v (.int .i64 (.ofNat 36)))]) (v := .v (.bool true)) (by kernel_rfl) (by kernel_rfl) (by kernel_rfl)
    have e : (sgnF n 36 == n) = true := by
      rw [beq_iff_eq, p]
      simp only [Nat.reduceSub] at *
      omega
    rw [e]
    exact h
  · have hh : Holds (fun _ => n) [.ne (.shr (.a 0) 35) 0] := holds_cons (by show _ ≠ _; rw [hb]; exact hc) holds_nil
    have h := retV hh tabNil rfl rfl (f := 17) (args := [.sx .i64 (.a 0), (.v (.int .i64 (.ofNat 36)))]) (v := .sb (.eq (.shr (.a 0) 35) (.c (-1)))) (by kernel_rfl) (by kernel_rfl) (by kernel_rfl)
    have e : (sgnF n 36 == n) = (n.fdiv (2 ^ 35) == -1) := by
      rw [Bool.eq_iff_iff, beq_iff_eq, beq_iff_eq, p, fdivP]
      simp only [Nat.reduceSub] at *
      omega
    rw [e]
    exact h

theorem rft36 (n : Int) (hn : In n) {b : Bool} (h : (sgnF n 36 == n) = b) : TabOK Try.prog (fun _ => n) sl0 [(17, [.sx .i64 (.a 0), (.v (.int .i64 (.ofNat 36)))], .v (.bool b))] := by
  intro x hx
  simp only [List.mem_cons, List.not_mem_nil, or_false] at hx
  subst hx
  subst h
  exact rfits36 n hn

theorem rwide36 (n : Int) (hn : In n) : Ret Try.prog 19 [.int .i64 n, .int .i64 (36 : Nat)] (.bool (sgnF n 36 == n || lowF n 36 == n)) := by
  cases hf : (sgnF n 36 == n) with
  | true =>
    have h := retV (val := fun _ => n) (F := []) holds_nil (rft36 n hn hf) (by kernel_rfl) (by kernel_rfl) (f := 19) (args := [.sx .i64 (.a 0), (.v (.int .i64 (.ofNat 36)))]) (v := .v (.bool true)) (by kernel_rfl) (by kernel_rfl) (by kernel_rfl)
    exact h
  | false =>
    have p := (pl36 n hn).fit
    rw [beq_eq_false_iff_ne] at hf
    obtain ⟨h1, h2⟩ := id hn
    have pl := (pl36 n hn).low
    by_cases hc : 1 ≤ n
    · have hh : Holds (fun _ => n) [.ge (.a 0) 1] := holds_cons hc holds_nil
      have h := retV hh (rft36 n hn (beq_eq_false_iff_ne.2 hf)) (by kernel_rfl) (by kernel_rfl) (f := 19) (args := [.sx .i64 (.a 0), (.v (.int .i64 (.ofNat 36)))]) (v := .sb (.eq (.shr (.a 0) 36) (.c 0))) (by kernel_rfl) (by kernel_rfl) (by kernel_rfl)
      have e : (false || lowF n 36 == n) = (n.fdiv (2 ^ 36) == 0) := by
        rw [Bool.false_or, Bool.eq_iff_iff, beq_iff_eq, beq_iff_eq, pl, fdivP]
        omega
      rw [e]
      exact h
    · have hh : Holds (fun _ => n) [.le (.a 0) 0] := holds_cons (show n ≤ 0 by omega) holds_nil
      have h := retV hh (rft36 n hn (beq_eq_false_iff_ne.2 hf)) (by kernel_rfl) (by kernel_rfl) (f := 19) (args := [.sx .i64 (.a 0), (.v (.int .i64 (.ofNat 36)))]) (v := .v (.bool false)) (by kernel_rfl) (by kernel_rfl) (by kernel_rfl)
      have e : (false || lowF n 36 == n) = false := by
        rw [Bool.false_or, beq_eq_false_iff_ne]
        intro hl
        rw [pl] at hl
        simp only [Nat.reduceSub] at *
        apply hf
        rw [p]
        omega
      rw [e]
      exact h

theorem rlow37 (n : Int) (hn : In n) : Ret Try.prog 23 [.int .i64 n, .int .i64 (37 : Nat)] (.int .i64 (lowF n 37)) := by
  have h := retV (val := fun _ => n) (F := []) holds_nil tabNil rfl rfl (f := 23) (args := [.sx .i64 (.a 0), (.v (.int .i64 (.ofNat 37)))]) (v := .sx .i64 (chain 37)) (by kernel_rfl) (by kernel_rfl) (by kernel_rfl)
  simp only [concs, conc, chain_eval _ 37 (by omega)] at h
  have e : IntKind.i64.wrap (n % 2 ^ 37) = lowF n 37 := by
    obtain ⟨h1, h2⟩ := hn
    simp only [wrapI, lowF]
    omega
  rw [← e]
  exact h

theorem rlt37 (n : Int) (hn : In n) : TabOK Try.prog (fun j => [n, lowF n 37].getD j 0) sl0 [(23, [.sx .i64 (.a 0), (.v (.int .i64 (.ofNat 37)))], .sx .i64 (.a 1))] := by
  intro x hx
  simp only [List.mem_cons, List.not_mem_nil, or_false] at hx
  subst hx
  exact rlow37 n hn

theorem rsign37 (n : Int) (hn : In n) : Ret Try.prog 21 [.int .i64 n, .int .i64 (37 : Nat)] (.int .i64 (sgnF n 37)) := by
  have hb : (SX.eval (fun j => [n, lowF n 37].getD j 0) (.and .i64 (.shr (.a 1) 36) (.c 1))) = lowF n 37 / 2 ^ 36 % 2 := by
    show IntKind.i64.wrap (BitVec.ofInt IntKind.i64.bits ((lowF n 37).fdiv (2 ^ 36)) &&& BitVec.ofInt IntKind.i64.bits 1).toNat = _
    rw [andOne, fdivP]
  obtain ⟨h1, h2⟩ := id hn
  by_cases hc : lowF n 37 / 2 ^ 36 % 2 = 1
  · have hh : Holds (fun j => [n, lowF n 37].getD j 0) [.is (.and .i64 (.shr (.a 1) 36) (.c 1)) 1] := holds_cons (hb.trans hc) holds_nil
    have h := retV hh (rlt37 n hn) (by kernel_rfl) (by kernel_rfl) (f := 21) (args := [.sx .i64 (.a 0), (.v (.int .i64 (.ofNat 37)))]) (v := .sx .i64 (.wrap .i64 (.sub (.a 1) (.c 137438953472)))) (by kernel_rfl) (by kernel_rfl) (by kernel_rfl)
    have e : IntKind.i64.wrap (lowF n 37 - 137438953472) = sgnF n 37 := by
      simp only [wrapI, lowF, sgnF] at hc ⊢
      omega
    rw [← e]
    exact h
  · have hh : Holds (fun j => [n, lowF n 37].getD j 0) [.ne (.and .i64 (.shr (.a 1) 36) (.c 1)) 1] := holds_cons (by show _ ≠ _; rw [hb]; exact hc) holds_nil
    have h := retV hh (rlt37 n hn) (by kernel_rfl) (by kernel_rfl) (f := 21) (args := [.sx .i64 (.a 0), (.v (.int .i64 (.ofNat 37)))]) (v := .sx .i64 (.a 1)) (by kernel_rfl) (by kernel_rfl) (by kernel_rfl)
    have e : lowF n 37 = sgnF n 37 := by
      simp only [lowF, sgnF] at hc ⊢
      omega
    rw [← e]
    exact h

theorem rfits37 (n : Int) (hn : In n) : Ret Try.prog 17 [.int .i64 n, .int .i64 (37 : Nat)] (.bool (sgnF n 37 == n)) := by
  have hb : (SX.eval (fun _ => n) (.shr (.a 0) 36)) = n / 2 ^ 36 := by show n.fdiv (2 ^ 36) = _; rw [fdivP]
  have p := (pl37 n hn).fit
  obtain ⟨h1, h2⟩ := id hn
  by_cases hc : n / 2 ^ 36 = 0
  · have hh : Holds (fun _ => n) [.is (.shr (.a 0) 36) 0] := holds_cons (hb.trans hc) holds_nil
    have h := retV hh tabNil rfl rfl (f := 17) (args := [.sx .i64 (.a 0), (.v (.int .i64 (.ofNat 37)))]) (v := .v (.bool true)) (by kernel_rfl) (by kernel_rfl) (by kernel_rfl)
    have e : (sgnF n 37 == n) = true := by
      rw [beq_iff_eq, p]
      simp only [Nat.reduceSub] at *
      omega
    rw [e]
    exact h
  · have hh : Holds (fun _ => n) [.ne (.shr (.a 0) 36) 0] := holds_cons (by show _ ≠ _; rw [hb]; exact hc) holds_nil
    have h := retV hh tabNil rfl rfl (f := 17) (args := [.sx .i64 (.a 0), (.v (.int .i64 (.ofNat 37)))]) (v := .sb (.eq (.shr (.a 0) 36) (.c (-1)))) (by kernel_rfl) (by kernel_rfl) (by kernel_rfl)
    have e : (sgnF n 37 == n) = (n.fdiv (2 ^ 36) == -1) := by
      rw [Bool.eq_iff_iff, beq_iff_eq, beq_iff_eq, p, fdivP]
      simp only [Nat.reduceSub] at *
      omega
    rw [e]
    exact h

theorem rft37 (n : Int) (hn : In n) {b : Bool} (h : (sgnF n 37 == n) = b) : TabOK Try.prog (fun _ => n) sl0 [(17, [.sx .i64 (.a 0), (.v (.int .i64 (.ofNat 37)))], .v (.bool b))] := by
  intro x hx
  simp only [List.mem_cons, List.not_mem_nil, or_false] at hx
  subst hx
  subst h
  exact rfits37 n hn

theorem rwide37 (n : Int) (hn : In n) : Ret Try.prog 19 [.int .i64 n, .int .i64 (37 : Nat)] (.bool (sgnF n 37 == n || lowF n 37 == n)) := by
  cases hf : (sgnF n 37 == n) with
  | true =>
    have h := retV (val := fun _ => n) (F := []) holds_nil (rft37 n hn hf) (by kernel_rfl) (by kernel_rfl) (f := 19) (args := [.sx .i64 (.a 0), (.v (.int .i64 (.ofNat 37)))]) (v := .v (.bool true)) (by kernel_rfl) (by kernel_rfl) (by kernel_rfl)
    exact h
  | false =>
    have p := (pl37 n hn).fit
    rw [beq_eq_false_iff_ne] at hf
    obtain ⟨h1, h2⟩ := id hn
    have pl := (pl37 n hn).low
    by_cases hc : 1 ≤ n
    · have hh : Holds (fun _ => n) [.ge (.a 0) 1] := holds_cons hc holds_nil
      have h := retV hh (rft37 n hn (beq_eq_false_iff_ne.2 hf)) (by kernel_rfl) (by kernel_rfl) (f := 19) (args := [.sx .i64 (.a 0), (.v (.int .i64 (.ofNat 37)))]) (v := .sb (.eq (.shr (.a 0) 37) (.c 0))) (by kernel_rfl) (by kernel_rfl) (by kernel_rfl)
      have e : (false || lowF n 37 == n) = (n.fdiv (2 ^ 37) == 0) := by
        rw [Bool.false_or, Bool.eq_iff_iff, beq_iff_eq, beq_iff_eq, pl, fdivP]
        omega
      rw [e]
      exact h
    · have hh : Holds (fun _ => n) [.le (.a 0) 0] := holds_cons (show n ≤ 0 by omega) holds_nil
      have h := retV hh (rft37 n hn (beq_eq_false_iff_ne.2 hf)) (by kernel_rfl) (by kernel_rfl) (f := 19) (args := [.sx .i64 (.a 0), (.v (.int .i64 (.ofNat 37)))]) (v := .v (.bool false)) (by kernel_rfl) (by kernel_rfl) (by kernel_rfl)
      have e : (false || lowF n 37 == n) = false := by
        rw [Bool.false_or, beq_eq_false_iff_ne]
        intro hl
        rw [pl] at hl
        simp only [Nat.reduceSub] at *
        apply hf
        rw [p]
        omega
      rw [e]
      exact h

theorem rlow38 (n : Int) (hn : In n) : Ret Try.prog 23 [.int .i64 n, .int .i64 (38 : Nat)] (.int .i64 (lowF n 38)) := by
  have h := retV (val := fun _ => n) (F := []) holds_nil tabNil rfl rfl (f := 23) (args := [.sx .i64 (.a 0), (.v (.int .i64 (.ofNat 38)))]) (v := .sx .i64 (chain 38)) (by kernel_rfl) (by kernel_rfl) (by kernel_rfl)
  simp only [concs, conc, chain_eval _ 38 (by omega)] at h
  have e : IntKind.i64.wrap (n % 2 ^ 38) = lowF n 38 := by
    obtain ⟨h1, h2⟩ := hn
    simp only [wrapI, lowF]
    omega
  rw [← e]
  exact h

theorem rlt38 (n : Int) (hn : In n) : TabOK Try.prog (fun j => [n, lowF n 38].getD j 0) sl0 [(23, [.sx .i64 (.a 0), (.v (.int .i64 (.ofNat 38)))], .sx .i64 (.a 1))] := by
  intro x hx
  simp only [List.mem_cons, List.not_mem_nil, or_false] at hx
  subst hx
  exact rlow38 n hn

theorem rsign38 (n : Int) (hn : In n) : Ret Try.prog 21 [.int .i64 n, .int .i64 (38 : Nat)] (.int .i64 (sgnF n 38)) := by
  have hb : (SX.eval (fun j => [n, lowF n 38].getD j 0) (.and .i64 (.shr (.a 1) 37) (.c 1))) = lowF n 38 / 2 ^ 37 % 2 := by
    show IntKind.i64.wrap (BitVec.ofInt IntKind.i64.bits ((lowF n 38).fdiv (2 ^ 37)) &&& BitVec.ofInt IntKind.i64.bits 1).toNat = _
    rw [andOne, fdivP]
  obtain ⟨h1, h2⟩ := id hn
  by_cases hc : lowF n 38 / 2 ^ 37 % 2 = 1
  · have hh : Holds (fun j => [n, lowF n 38].getD j 0) [.is (.and .i64 (.shr (.a 1) 37) (.c 1)) 1] := holds_cons (hb.trans hc) holds_nil
    have h := retV hh (rlt38 n hn) (by kernel_rfl) (by kernel_rfl) (f := 21) (args := [.sx .i64 (.a 0), (.v (.int .i64 (.ofNat 38)))]) (v := .sx .i64 (.wrap .i64 (.sub (.a 1) (.c 274877906944)))) (by kernel_rfl) (by kernel_rfl) (by kernel_rfl)
    have e : IntKind.i64.wrap (lowF n 38 - 274877906944) = sgnF n 38 := by
      simp only [wrapI, lowF, sgnF] at hc ⊢
      omega
    rw [← e]
    exact h
  · have hh : Holds (fun j => [n, lowF n 38].getD j 0) [.ne (.and .i64 (.shr (.a 1) 37) (.c 1)) 1] := holds_cons (by show _ ≠ _; rw [hb]; exact hc) holds_nil
    have h := retV hh (rlt38 n hn) (by kernel_rfl) (by kernel_rfl) (f := 21) (args := [.sx .i64 (.a 0), (.v (.int .i64 (.ofNat 38)))]) (v := .sx .i64 (.a 1)) (by kernel_rfl) (by kernel_rfl) (by kernel_rfl)
    have e : lowF n 38 = sgnF n 38 := by
      simp only [lowF, sgnF] at hc ⊢
      omega
    rw [← e]
    exact h

theorem rfits38 (n : Int) (hn : In n) : Ret Try.prog 17 [.int .i64 n, .int .i64 (38 : Nat)] (.bool (sgnF n 38 == n)) := by
  have hb : (SX.eval (fun _ => n) (.shr (.a 0) 37)) = n / 2 ^ 37 := by show n.fdiv (2 ^ 37) = _; rw [fdivP]
  have p := (pl38 n hn).fit
  obtain ⟨h1, h2⟩ := id hn
  by_cases hc : n / 2 ^ 37 = 0
  · have hh : Holds (fun _ => n) [.is (.shr (.a 0) 37) 0] := holds_cons (hb.trans hc) holds_nil
    have h := retV hh tabNil rfl rfl (f := 17) (args := [.sx .i64 (.a 0), (.v (.int .i64 (.ofNat 38)))]) (v := .v (.bool true)) (by kernel_rfl) (by kernel_rfl) (by kernel_rfl)
    have e : (sgnF n 38 == n) = true := by
      rw [beq_iff_eq, p]
      simp only [Nat.reduceSub] at *
      omega
    rw [e]
    exact h
  · have hh : Holds (fun _ => n) [.ne (.shr (.a 0) 37) 0] := holds_cons (by show _ ≠ _; rw [hb]; exact hc) holds_nil
    have h := retV hh tabNil rfl rfl (f := 17) (args := [.sx .i64 (.a 0), (.v (.int .i64 (.ofNat 38)))]) (v := .sb (.eq (.shr (.a 0) 37) (.c (-1)))) (by kernel_rfl) (by kernel_rfl) (by kernel_rfl)
    have e : (sgnF n 38 == n) = (n.fdiv (2 ^ 37) == -1) := by
      rw [Bool.eq_iff_iff, beq_iff_eq, beq_iff_eq, p, fdivP]
      simp only [Nat.reduceSub] at *
      omega
    rw [e]
    exact h

theorem rft38 (n : Int) (hn : In n) {b : Bool} (h : (sgnF n 38 == n) = b) : TabOK Try.prog (fun _ => n) sl0 [(17, [.sx .i64 (.a 0), (.v (.int .i64 (.ofNat 38)))], .v (.bool b))] := by
  intro x hx
  simp only [List.mem_cons, List.not_mem_nil, or_false] at hx
  subst hx
  subst h
  exact rfits38 n hn

theorem rwide38 (n : Int) (hn : In n) : Ret Try.prog 19 [.int .i64 n, .int .i64 (38 : Nat)] (.bool (sgnF n 38 == n || lowF n 38 == n)) := by
  cases hf : (sgnF n 38 == n) with
  | true =>
    have h := retV (val := fun _ => n) (F := []) holds_nil (rft38 n hn hf) (by kernel_rfl) (by kernel_rfl) (f := 19) (args := [.sx .i64 (.a 0), (.v (.int .i64 (.ofNat 38)))]) (v := .v (.bool true)) (by kernel_rfl) (by kernel_rfl) (by kernel_rfl)
    exact h
  | false =>
    have p := (pl38 n hn).fit
    rw [beq_eq_false_iff_ne] at hf
    obtain ⟨h1, h2⟩ := id hn
    have pl := (pl38 n hn).low
    by_cases hc : 1 ≤ n
    · have hh : Holds (fun _ => n) [.ge (.a 0) 1] := holds_cons hc holds_nil
      have h := retV hh (rft38 n hn (beq_eq_false_iff_ne.2 hf)) (by kernel_rfl) (by kernel_rfl) (f := 19) (args := [.sx .i64 (.a 0), (.v (.int .i64 (.ofNat 38)))]) (v := .sb (.eq (.shr (.a 0) 38) (.c 0))) (by kernel_rfl) (by kernel_rfl) (by kernel_rfl)
      have e : (false || lowF n 38 == n) = (n.fdiv (2 ^ 38) == 0) := by
        rw [Bool.false_or, Bool.eq_iff_iff, beq_iff_eq, beq_iff_eq, pl, fdivP]
        omega
      rw [e]
      exact h
    · have hh : Holds (fun _ => n) [.le (.a 0) 0] := holds_cons (show n ≤ 0 by omega) holds_nil
      have h := retV hh (rft38 n hn (beq_eq_false_iff_ne.2 hf)) (by kernel_rfl) (by kernel_rfl) (f := 19) (args := [.sx .i64 (.a 0), (.v (.int .i64 (.ofNat 38)))]) (v := .v (.bool false)) (by kernel_rfl) (by kernel_rfl) (by kernel_rfl)
      have e : (false || lowF n 38 == n) = false := by
        rw [Bool.false_or, beq_eq_false_iff_ne]
        intro hl
        rw [pl] at hl
        simp only [Nat.reduceSub] at *
        apply hf
        rw [p]
        omega
      rw [e]
      exact h

theorem rlow39 (n : Int) (hn : In n) : Ret Try.prog 23 [.int .i64 n, .int .i64 (39 : Nat)] (.int .i64 (lowF n 39)) := by
  have h := retV (val := fun _ => n) (F := []) holds_nil tabNil rfl rfl (f := 23) (args := [.sx .i64 (.a 0), (.v (.int .i64 (.ofNat 39)))]) (v := .sx .i64 (chain 39)) (by kernel_rfl) (by kernel_rfl) (by kernel_rfl)
  simp only [concs, conc, chain_eval _ 39 (by omega)] at h
  have e : IntKind.i64.wrap (n % 2 ^ 39) = lowF n 39 := by
    obtain ⟨h1, h2⟩ := hn
    simp only [wrapI, lowF]
    omega
  rw [← e]
  exact h

theorem rlt39 (n : Int) (hn : In n) : TabOK Try.prog (fun j => [n, lowF n 39].getD j 0) sl0 [(23, [.sx .i64 (.a 0), (.v (.int .i64 (.ofNat 39)))], .sx .i64 (.a 1))] := by
  intro x hx
  simp only [List.mem_cons, List.not_mem_nil, or_false] at hx
  subst hx
  exact rlow39 n hn

theorem rsign39 (n : Int) (hn : In n) : Ret Try.prog 21 [.int .i64 n, .int .i64 (39 : Nat)] (.int .i64 (sgnF n 39)) := by
  have hb : (SX.eval (fun j => [n, lowF n 39].getD j 0) (.and .i64 (.shr (.a 1) 38) (.c 1))) = lowF n 39 / 2 ^ 38 % 2 := by
    show IntKind.i64.wrap (BitVec.ofInt IntKind.i64.bits ((lowF n 39).fdiv (2 ^ 38)) &&& BitVec.ofInt IntKind.i64.bits 1).toNat = _
    rw [andOne, fdivP]
  obtain ⟨h1, h2⟩ := id hn
  by_cases hc : lowF n 39 / 2 ^ 38 % 2 = 1
  · have hh : Holds (fun j => [n, lowF n 39].getD j 0) [.is (.and .i64 (.shr (.a 1) 38) (.c 1)) 1] := holds_cons (hb.trans hc) holds_nil
    have h := retV hh (rlt39 n hn) (by kernel_rfl) (by kernel_rfl) (f := 21) (args := [.sx .i64 (.a 0), (.v (.int .i64 (.ofNat 39)))]) (v := .sx .i64 (.wrap .i64 (.sub (.a 1) (.c 549755813888)))) (by kernel_rfl) (by kernel_rfl) (by kernel_rfl)
    have e : IntKind.i64.wrap (lowF n 39 - 549755813888) = sgnF n 39 := by
      simp only [wrapI, lowF, sgnF] at hc ⊢
      omega
    rw [← e]
    exact h
  · have hh : Holds (fun j => [n, lowF n 39].getD j 0) [.ne (.and .i64 (.shr (.a 1) 38) (.c 1)) 1] := holds_cons (by show _ ≠ _; rw [hb]; exact hc) holds_nil
    have h := retV hh (rlt39 n hn) (by kernel_rfl) (by kernel_rfl) (f := 21) (args := [.sx .i64 (.a 0), (.v (.int .i64 (.ofNat 39)))]) (v := .sx .i64 (.a 1)) (by kernel_rfl) (by kernel_rfl) (by kernel_rfl)
    have e : lowF n 39 = sgnF n 39 := by
      simp only [lowF, sgnF] at hc ⊢
      omega
    rw [← e]
    exact h

theorem rfits39 (n : Int) (hn : In n) : Ret Try.prog 17 [.int .i64 n, .int .i64 (39 : Nat)] (.bool (sgnF n 39 == n)) := by
  have hb : (SX.eval (fun _ => n) (.shr (.a 0) 38)) = n / 2 ^ 38 := by show n.fdiv (2 ^ 38) = _; rw [fdivP]
  have p := (pl39 n hn).fit
  obtain ⟨h1, h2⟩ := id hn
  by_cases hc : n / 2 ^ 38 = 0
  · have hh : Holds (fun _ => n) [.is (.shr (.a 0) 38) 0] := holds_cons (hb.trans hc) holds_nil
    have h := retV hh tabNil rfl rfl (f := 17) (args := [.sx .i64 (.a 0), (.v (.int .i64 (.ofNat 39)))]) (v := .v (.bool true)) (by kernel_rfl) (by kernel_rfl) (by kernel_rfl)
    have e : (sgnF n 39 == n) = true := by
      rw [beq_iff_eq, p]
      simp only [Nat.reduceSub] at *
      omega
    rw [e]
    exact h
  · have hh : Holds (fun _ => n) [.ne (.shr (.a 0) 38) 0] := holds_cons (by show _ ≠ _; rw [hb]; exact hc) holds_nil
    have h := retV hh tabNil rfl rfl (f := 17) (args := [.sx .i64 (.a 0), (.v (.int .i64 (.ofNat 39)))]) (v := .sb (.eq (.shr (.a 0) 38) (.c (-1)))) (by kernel_rfl) (by kernel_rfl) (by kernel_rfl)
    have e : (sgnF n 39 == n) = (n.fdiv (2 ^ 38) == -1) := by
      rw [Bool.eq_iff_iff, beq_iff_eq, beq_iff_eq, p, fdivP]
      simp only [Nat.reduceSub] at *
      omega
    rw [e]
    exact h

theorem rft39 (n : Int) (hn : In n) {b : Bool} (h : (sgnF n 39 == n) = b) : TabOK Try.prog (fun _ => n) sl0 [(17, [.sx .i64 (.a 0), (.v (.int .i64 (.ofNat 39)))], .v (.bool b))] := by
  intro x hx
  simp only [List.mem_cons, List.not_mem_nil, or_false] at hx
  subst hx
  subst h
  exact rfits39 n hn

theorem rwide39 (n : Int) (hn : In n) : Ret Try.prog 19 [.int .i64 n, .int .i64 (39 : Nat)] (.bool (sgnF n 39 == n || lowF n 39 == n)) := by
  cases hf : (sgnF n 39 == n) with
  | true =>
    have h := retV (val := fun _ => n) (F := []) holds_nil (rft39 n hn hf) (by kernel_rfl) (by kernel_rfl) (f := 19) (args := [.sx .i64 (.a 0), (.v (.int .i64 (.ofNat 39)))]) (v := .v (.bool true)) (by kernel_rfl) (by kernel_rfl) (by kernel_rfl)
    exact h
  | false =>
    have p := (pl39 n hn).fit
    rw [beq_eq_false_iff_ne] at hf
    obtain ⟨h1, h2⟩ := id hn
    have pl := (pl39 n hn).low
    by_cases hc : 1 ≤ n
    · have hh : Holds (fun _ => n) [.ge (.a 0) 1] := holds_cons hc holds_nil
      have h := retV hh (rft39 n hn (beq_eq_false_iff_ne.2 hf)) (by kernel_rfl) (by kernel_rfl) (f := 19) (args := [.sx .i64 (.a 0), (.v (.int .i64 (.ofNat 39)))]) (v := .sb (.eq (.shr (.a 0) 39) (.c 0))) (by kernel_rfl) (by kernel_rfl) (by kernel_rfl)
      have e : (false || lowF n 39 == n) = (n.fdiv (2 ^ 39) == 0) := by
        rw [Bool.false_or, Bool.eq_iff_iff, beq_iff_eq, beq_iff_eq, pl, fdivP]
        omega
      rw [e]
      exact h
    · have hh : Holds (fun _ => n) [.le (.a 0) 0] := holds_cons (show n ≤ 0 by omega) holds_nil
      have h := retV hh (rft39 n hn (beq_eq_false_iff_ne.2 hf)) (by kernel_rfl) (by kernel_rfl) (f := 19) (args := [.sx .i64 (.a 0), (.v (.int .i64 (.ofNat 39)))]) (v := .v (.bool false)) (by kernel_rfl) (by kernel_rfl) (by kernel_rfl)
      have e : (false || lowF n 39 == n) = false := by
        rw [Bool.false_or, beq_eq_false_iff_ne]
        intro hl
        rw [pl] at hl
        simp only [Nat.reduceSub] at *
        apply hf
        rw [p]
        omega
      rw [e]
      exact h

theorem rlow40 (n : Int) (hn : In n) : Ret Try.prog 23 [.int .i64 n, .int .i64 (40 : Nat)] (.int .i64 (lowF n 40)) := by
  have h := retV (val := fun _ => n) (F := []) holds_nil tabNil rfl rfl (f := 23) (args := [.sx .i64 (.a 0), (.v (.int .i64 (.ofNat 40)))]) (v := .sx .i64 (chain 40)) (by kernel_rfl) (by kernel_rfl) (by kernel_rfl)
  simp only [concs, conc, chain_eval _ 40 (by omega)] at h
  have e : IntKind.i64.wrap (n % 2 ^ 40) = lowF n 40 := by
    obtain ⟨h1, h2⟩ := hn
    simp only [wrapI, lowF]
    omega
  rw [← e]
  exact h

theorem rlt40 (n : Int) (hn : In n) : TabOK Try.prog (fun j => [n, lowF n 40].getD j 0) sl0 [(23, [.sx .i64 (.a 0), (.v (.int .i64 (.ofNat 40)))], .sx .i64 (.a 1))] := by
  intro x hx
  simp only [List.mem_cons, List.not_mem_nil, or_false] at hx
  subst hx
  exact rlow40 n hn

theorem rsign40 (n : Int) (hn : In n) : Ret Try.prog 21 [.int .i64 n, .int .i64 (40 : Nat)] (.int .i64 (sgnF n 40)) := by
  have hb : (SX.eval (fun j => [n, lowF n 40].getD j 0) (.and .i64 (.shr (.a 1) 39) (.c 1))) = lowF n 40 / 2 ^ 39 % 2 := by
    show IntKind.i64.wrap (BitVec.ofInt IntKind.i64.bits ((lowF n 40).fdiv (2 ^ 39)) &&& BitVec.ofInt IntKind.i64.bits 1).toNat = _
    rw [andOne, fdivP]
  obtain ⟨h1, h2⟩ := id hn
  by_cases hc : lowF n 40 / 2 ^ 39 % 2 = 1
  · have hh : Holds (fun j => [n, lowF n 40].getD j 0) [.is (.and .i64 (.shr (.a 1) 39) (.c 1)) 1] := holds_cons (hb.trans hc) holds_nil
    have h := retV hh (rlt40 n hn) (by kernel_rfl) (by kernel_rfl) (f := 21) (args := [.sx .i64 (.a 0), (.v (.int .i64 (.ofNat 40)))]) (v := .sx .i64 (.wrap .i64 (.sub (.a 1) (.c 1099511627776)))) (by kernel_rfl) (by kernel_rfl) (by kernel_rfl)
    have e : IntKind.i64.wrap (lowF n 40 - 1099511627776) = sgnF n 40 := by
      simp only [wrapI, lowF, sgnF] at hc ⊢
      omega
    rw [← e]
    exact h
  · have hh : Holds (fun j => [n, lowF n 40].getD j 0) [.ne (.and .i64 (.shr (.a 1) 39) (.c 1)) 1] := holds_cons (by show _ ≠ _; rw [hb]; exact hc) holds_nil
    have h := retV hh (rlt40 n hn) (by kernel_rfl) (by kernel_rfl) (f := 21) (args := [.sx .i64 (.a 0), (.v (.int .i64 (.ofNat 40)))]) (v := .sx .i64 (.a 1)) (by kernel_rfl) (by kernel_rfl) (by kernel_rfl)
    have e : lowF n 40 = sgnF n 40 := by
      simp only [lowF, sgnF] at hc ⊢
      omega
    rw [← e]
    exact h

theorem rfits40 (n : Int) (hn : In n) : Ret Try.prog 17 [.int .i64 n, .int .i64 (40 : Nat)] (.bool (sgnF n 40 == n)) := by
  have hb : (SX.eval (fun _ => n) (.shr (.a 0) 39)) = n / 2 ^ 39 := by show n.fdiv (2 ^ 39) = _; rw [fdivP]
  have p := (pl40 n hn).fit
  obtain ⟨h1, h2⟩ := id hn
  by_cases hc : n / 2 ^ 39 = 0
  · have hh : Holds (fun _ => n) [.is (.shr (.a 0) 39) 0] := holds_cons (hb.trans hc) holds_nil
    have h := retV hh tabNil rfl rfl (f := 17) (args := [.sx .i64 (.a 0), (.v (.int .i64 (.ofNat 40)))]) (v := .v (.bool true)) (by kernel_rfl) (by kernel_rfl) (by kernel_rfl)
    have e : (sgnF n 40 == n) = true := by
      rw [beq_iff_eq, p]
      simp only [Nat.reduceSub] at *
      omega
    rw [e]
    exact h
  · have hh : Holds (fun _ => n) [.ne (.shr (.a 0) 39) 0] := holds_cons (by show _ ≠ _; rw [hb]; exact hc) holds_nil
    have h := retV hh tabNil rfl rfl (f := 17) (args := [.sx .i64 (.a 0), (.v (.int .i64 (.ofNat 40)))]) (v := .sb (.eq (.shr (.a 0) 39) (.c (-1)))) (by kernel_rfl) (by kernel_rfl) (by kernel_rfl)
    have e : (sgnF n 40 == n) = (n.fdiv (2 ^ 39) == -1) := by
      rw [Bool.eq_iff_iff, beq_iff_eq, beq_iff_eq, p, fdivP]
      simp only [Nat.reduceSub] at *
      omega
    rw [e]
    exact h

theorem rft40 (n : Int) (hn : In n) {b : Bool} (h : (sgnF n 40 == n) = b) : TabOK Try.prog (fun _ => n) sl0 [(17, [.sx .i64 (.a 0), (.v (.int .i64 (.ofNat 40)))], .v (.bool b))] := by
  intro x hx
  simp only [List.mem_cons, List.not_mem_nil, or_false] at hx
  subst hx
  subst h
  exact rfits40 n hn

theorem rwide40 (n : Int) (hn : In n) : Ret Try.prog 19 [.int .i64 n, .int .i64 (40 : Nat)] (.bool (sgnF n 40 == n || lowF n 40 == n)) := by
  cases hf : (sgnF n 40 == n) with
  | true =>
    have h := retV (val := fun _ => n) (F := []) holds_nil (rft40 n hn hf) (by kernel_rfl) (by kernel_rfl) (f := 19) (args := [.sx .i64 (.a 0), (.v (.int .i64 (.ofNat 40)))]) (v := .v (.bool true)) (by kernel_rfl) (by kernel_rfl) (by kernel_rfl)
    exact h
  | false =>
    have p := (pl40 n hn).fit
    rw [beq_eq_false_iff_ne] at hf
    obtain ⟨h1, h2⟩ := id hn
    have pl := (pl40 n hn).low
    by_cases hc : 1 ≤ n
    · have hh : Holds (fun _ => n) [.ge (.a 0) 1] := holds_cons hc holds_nil
      have h := retV hh (rft40 n hn (beq_eq_false_iff_ne.2 hf)) (by kernel_rfl) (by kernel_rfl) (f := 19) (args := [.sx .i64 (.a 0), (.v (.int .i64 (.ofNat 40)))]) (v := .sb (.eq (.shr (.a 0) 40) (.c 0))) (by kernel_rfl) (by kernel_rfl) (by kernel_rfl)
      have e : (false || lowF n 40 == n) = (n.fdiv (2 ^ 40) == 0) := by
        rw [Bool.false_or, Bool.eq_iff_iff, beq_iff_eq, beq_iff_eq, pl, fdivP]
        omega
      rw [e]
      exact h
    · have hh : Holds (fun _ => n) [.le (.a 0) 0] := holds_cons (show n ≤ 0 by omega) holds_nil
      have h := retV hh (rft40 n hn (beq_eq_false_iff_ne.2 hf)) (by kernel_rfl) (by kernel_rfl) (f := 19) (args := [.sx .i64 (.a 0), (.v (.int .i64 (.ofNat 40)))]) (v := .v (.bool false)) (by kernel_rfl) (by kernel_rfl) (by kernel_rfl)
      have e : (false || lowF n 40 == n) = false := by
        rw [Bool.false_or, beq_eq_false_iff_ne]
        intro hl
        rw [pl] at hl
        simp only [Nat.reduceSub] at *
        apply hf
        rw [p]
        omega
      rw [e]
      exact h

theorem rlow41 (n : Int) (hn : In n) : Ret Try.prog 23 [.int .i64 n, .int .i64 (41 : Nat)] (.int .i64 (lowF n 41)) := by
  have h := retV (val := fun _ => n) (F := []) holds_nil tabNil rfl rfl (f := 23) (args := [.sx .i64 (.a 0), (.v (.int .i64 (.ofNat 41)))]) (v := .sx .i64 (chain 41)) (by kernel_rfl) (by kernel_rfl) (by kernel_rfl)
  simp only [concs, conc, chain_eval _ 41 (by omega)] at h
  have e : IntKind.i64.wrap (n % 2 ^ 41) = lowF n 41 := by
    obtain ⟨h1, h2⟩ := hn
    simp only [wrapI, lowF]
    omega
  rw [← e]
  exact h

theorem rlt41 (n : Int) (hn : In n) : TabOK Try.prog (fun j => [n, lowF n 41].getD j 0) sl0 [(23, [.sx .i64 (.a 0), (.v (.int .i64 (.ofNat 41)))], .sx .i64 (.a 1))] := by
  intro x hx
  simp only [List.mem_cons, List.not_mem_nil, or_false] at hx
  subst hx
  exact rlow41 n hn

theorem rsign41 (n : Int) (hn : In n) : Ret Try.prog 21 [.int .i64 n, .int .i64 (41 : Nat)] (.int .i64 (sgnF n 41)) := by
  have hb : (SX.eval (fun j => [n, lowF n 41].getD j 0) (.and .i64 (.shr (.a 1) 40) (.c 1))) = lowF n 41 / 2 ^ 40 % 2 := by
    show IntKind.i64.wrap (BitVec.ofInt IntKind.i64.bits ((lowF n 41).fdiv (2 ^ 40)) &&& BitVec.ofInt IntKind.i64.bits 1).toNat = _
    rw [andOne, fdivP]
  obtain ⟨h1, h2⟩ := id hn
  by_cases hc : lowF n 41 / 2 ^ 40 % 2 = 1
  · have hh : Holds (fun j => [n, lowF n 41].getD j 0) [.is (.and .i64 (.shr (.a 1) 40) (.c 1)) 1] := holds_cons (hb.trans hc) holds_nil
    have h := retV hh (rlt41 n hn) (by kernel_rfl) (by kernel_rfl) (f := 21) (args := [.sx .i64 (.a 0), (.v (.int .i64 (.ofNat 41)))]) (v := .sx .i64 (.wrap .i64 (.sub (.a 1) (.c 2199023255552)))) (by kernel_rfl) (by kernel_rfl) (by kernel_rfl)
    have e : IntKind.i64.wrap (lowF n 41 - 2199023255552) = sgnF n 41 := by
      simp only [wrapI, lowF, sgnF] at hc ⊢
      omega
    rw [← e]
    exact h
  · have hh : Holds (fun j => [n, lowF n 41].getD j 0) [.ne (.and .i64 (.shr (.a 1) 40) (.c 1)) 1] := holds_cons (by show _ ≠ _; rw [hb]; exact hc) holds_nil
    have h := retV hh (rlt41 n hn) (by kernel_rfl) (by kernel_rfl) (f := 21) (args := [.sx .i64 (.a 0), (.v (.int .i64 (.ofNat 41)))]) (v := .sx .i64 (.a 1)) (by kernel_rfl) (by kernel_rfl) (by kernel_rfl)
    have e : lowF n 41 = sgnF n 41 := by
      simp only [lowF, sgnF] at hc ⊢
      omega
    rw [← e]
    exact h

theorem rfits41 (n : Int) (hn : In n) : Ret Try.prog 17 [.int .i64 n, .int .i64 (41 : Nat)] (.bool (sgnF n 41 == n)) := by
  have hb : (SX.eval (fun _ => n) (.shr (.a 0) 40)) = n / 2 ^ 40 := by show n.fdiv (2 ^ 40) = _; rw [fdivP]
  have p := (pl41 n hn).fit
  obtain ⟨h1, h2⟩ := id hn
  by_cases hc : n / 2 ^ 40 = 0
  · have hh : Holds (fun _ => n) [.is (.shr (.a 0) 40) 0] := holds_cons (hb.trans hc) holds_nil
    have h := retV hh tabNil rfl rfl (f := 17) (args := [.sx .i64 (.a 0), (.v (.int .i64 (.ofNat 41)))]) (v := .v (.bool true)) (by kernel_rfl) (by kernel_rfl) (by kernel_rfl)
    have e : (sgnF n 41 == n) = true := by
      rw [beq_iff_eq, p]
      simp only [Nat.reduceSub] at *
      omega
    rw [e]
    exact h
  · have hh : Holds (fun _ => n) [.ne (.shr (.a 0) 40) 0] := holds_cons (by show _ ≠ _; rw [hb]; exact hc) holds_nil
    have h := retV hh tabNil rfl rfl (f := 17) (args := [.sx .i64 (.a 0), (.v (.int .i64 (.ofNat 41)))]) (v := .sb (.eq (.shr (.a 0) 40) (.c (-1)))) (by kernel_rfl) (by kernel_rfl) (by kernel_rfl)
    have e : (sgnF n 41 == n) = (n.fdiv (2 ^ 40) == -1) := by
      rw [Bool.eq_iff_iff, beq_iff_eq, beq_iff_eq, p, fdivP]
      simp only [Nat.reduceSub] at *
      omega
    rw [e]
    exact h

theorem rft41 (n : Int) (hn : In n) {b : Bool} (h : (sgnF n 41 == n) = b) : TabOK Try.prog (fun _ => n) sl0 [(17, [.sx .i64 (.a 0), (.v (.int .i64 (.ofNat 41)))], .v (.bool b))] := by
  intro x hx
  simp only [List.mem_cons, List.not_mem_nil, or_false] at hx
  subst hx
  subst h
  exact rfits41 n hn

theorem rwide41 (n : Int) (hn : In n) : Ret Try.prog 19 [.int .i64 n, .int .i64 (41 : Nat)] (.bool (sgnF n 41 == n || lowF n 41 == n)) := by
  cases hf : (sgnF n 41 == n) with
  | true =>
    have h := retV (val := fun _ => n) (F := []) holds_nil (rft41 n hn hf) (by kernel_rfl) (by kernel_rfl) (f := 19) (args := [.sx .i64 (.a 0), (.v (.int .i64 (.ofNat 41)))]) (v := .v (.bool true)) (by kernel_rfl) (by kernel_rfl) (by kernel_rfl)
    exact h
  | false =>
    have p := (pl41 n hn).fit
    rw [beq_eq_false_iff_ne] at hf
    obtain ⟨h1, h2⟩ := id hn
    have pl := (pl41 n hn).low
    by_cases hc : 1 ≤ n
    · have hh : Holds (fun _ => n) [.ge (.a 0) 1] := holds_cons hc holds_nil
      have h := retV hh (rft41 n hn (beq_eq_false_iff_ne.2 hf)) (by kernel_rfl) (by kernel_rfl) (f := 19) (args := [.sx .i64 (.a 0), (.v (.int .i64 (.ofNat 41)))]) (v := .sb (.eq (.shr (.a 0) 41) (.c 0))) (by kernel_rfl) (by kernel_rfl) (by kernel_rfl)
      have e : (false || lowF n 41 == n) = (n.fdiv (2 ^ 41) == 0) := by
        rw [Bool.false_or, Bool.eq_iff_iff, beq_iff_eq, beq_iff_eq, pl, fdivP]
        omega
      rw [e]
      exact h
    · have hh : Holds (fun _ => n) [.le (.a 0) 0] := holds_cons (show n ≤ 0 by omega) holds_nil
      have h := retV hh (rft41 n hn (beq_eq_false_iff_ne.2 hf)) (by kernel_rfl) (by kernel_rfl) (f := 19) (args := [.sx .i64 (.a 0), (.v (.int .i64 (.ofNat 41)))]) (v := .v (.bool false)) (by kernel_rfl) (by kernel_rfl) (by kernel_rfl)
      have e : (false || lowF n 41 == n) = false := by
        rw [Bool.false_or, beq_eq_false_iff_ne]
        intro hl
        rw [pl] at hl
        simp only [Nat.reduceSub] at *
        apply hf
        rw [p]
        omega
      rw [e]
      exact h

theorem rlow42 (n : Int) (hn : In n) : Ret Try.prog 23 [.int .i64 n, .int .i64 (42 : Nat)] (.int .i64 (lowF n 42)) := by
  have h := retV (val := fun _ => n) (F := []) holds_nil tabNil rfl rfl (f := 23) (args := [.sx .i64 (.a 0), (.v (.int .i64 (.ofNat 42)))]) (v := .sx .i64 (chain 42)) (by kernel_rfl) (by kernel_rfl) (by kernel_rfl)
  simp only [concs, conc, chain_eval _ 42 (by omega)] at h
  have e : IntKind.i64.wrap (n % 2 ^ 42) = lowF n 42 := by
    obtain ⟨h1, h2⟩ := hn
    simp only [wrapI, lowF]
    omega
  rw [← e]
  exact h

theorem rlt42 (n : Int) (hn : In n) : TabOK Try.prog (fun j => [n, lowF n 42].getD j 0) sl0 [(23, [.sx .i64 (.a 0), (.v (.int .i64 (.ofNat 42)))], .sx .i64 (.a 1))] := by
  intro x hx
  simp only [List.mem_cons, List.not_mem_nil, or_false] at hx
  subst hx
  exact rlow42 n hn

theorem rsign42 (n : Int) (hn : In n) : Ret Try.prog 21 [.int .i64 n, .int .i64 (42 : Nat)] (.int .i64 (sgnF n 42)) := by
  have hb : (SX.eval (fun j => [n, lowF n 42].getD j 0) (.and .i64 (.shr (.a 1) 41) (.c 1))) = lowF n 42 / 2 ^ 41 % 2 := by
    show IntKind.i64.wrap (BitVec.ofInt IntKind.i64.bits ((lowF n 42).fdiv (2 ^ 41)) &&& BitVec.ofInt IntKind.i64.bits 1).toNat = _
    rw [andOne, fdivP]
  obtain ⟨h1, h2⟩ := id hn
  by_cases hc : lowF n 42 / 2 ^ 41 % 2 = 1
  · have hh : Holds (fun j => [n, lowF n 42].getD j 0) [.is (.and .i64 (.shr (.a 1) 41) (.c 1)) 1] := holds_cons (hb.trans hc) holds_nil
    have h := retV hh (rlt42 n hn) (by kernel_rfl) (by kernel_rfl) (f := 21) (args := [.sx .i64 (.a 0), (.v (.int .i64 (.ofNat 42)))]) (v := .sx .i64 (.wrap .i64 (.sub (.a 1) (.c 4398046511104)))) (by kernel_rfl) (by kernel_rfl) (by kernel_rfl)
    have e : IntKind.i64.wrap (lowF n 42 - 4398046511104) = sgnF n 42 := by
      simp only [wrapI, lowF, sgnF] at hc ⊢
      omega
    rw [← e]
    exact h
  · have hh : Holds (fun j => [n, lowF n 42].getD j 0) [.ne (.and .i64 (.shr (.a 1) 41) (.c 1)) 1] := holds_cons (by show _ ≠ _; rw [hb]; exact hc) holds_nil
    have h := retV hh (rlt42 n hn) (by kernel_rfl) (by kernel_rfl) (f := 21) (args := [.sx .i64 (.a 0), (.v (.int .i64 (.ofNat 42)))]) (v := .sx .i64 (.a 1)) (by kernel_rfl) (by kernel_rfl) (by kernel_rfl)
    have e : lowF n 42 = sgnF n 42 := by
      simp only [lowF, sgnF] at hc ⊢
      omega
    rw [← e]
    exact h

theorem rfits42 (n : Int) (hn : In n) : Ret Try.prog 17 [.int .i64 n, .int .i64 (42 : Nat)] (.bool (sgnF n 42 == n)) := by
  have hb : (SX.eval (fun _ => n) (.shr (.a 0) 41)) = n / 2 ^ 41 := by show n.fdiv (2 ^ 41) = _; rw [fdivP]
  have p := (pl42 n hn).fit
  obtain ⟨h1, h2⟩ := id hn
  by_cases hc : n / 2 ^ 41 = 0
  · have hh : Holds (fun _ => n) [.is (.shr (.a 0) 41) 0] := holds_cons (hb.trans hc) holds_nil
    have h := retV hh tabNil rfl rfl (f := 17) (args := [.sx .i64 (.a 0), (.v (.int .i64 (.ofNat 42)))]) (v := .v (.bool true)) (by kernel_rfl) (by kernel_rfl) (by kernel_rfl)
    have e : (sgnF n 42 == n) = true := by
      rw [beq_iff_eq, p]
      simp only [Nat.reduceSub] at *
      omega
    rw [e]
    exact h
  · have hh : Holds (fun _ => n) [.ne (.shr (.a 0) 41) 0] := holds_cons (by show _ ≠ _; rw [hb]; exact hc) holds_nil
    have h := retV hh tabNil rfl rfl (f := 17) (args := [.sx .i64 (.a 0), (.v (.int .i64 (.ofNat 42)))]) (v := .sb (.eq (.shr (.a 0) 41) (.c (-1)))) (by kernel_rfl) (by kernel_rfl) (by kernel_rfl)
    have e : (sgnF n 42 == n) = (n.fdiv (2 ^ 41) == -1) := by
      rw [Bool.eq_iff_iff, beq_iff_eq, beq_iff_eq, p, fdivP]
      simp only [Nat.reduceSub] at *
      omega
    rw [e]
    exact h

theorem rft42 (n : Int) (hn : In n) {b : Bool} (h : (sgnF n 42 == n) = b) : TabOK Try.prog (fun _ => n) sl0 [(17, [.sx .i64 (.a 0), (.v (.int .i64 (.ofNat 42)))], .v (.bool b))] := by
  intro x hx
  simp only [List.mem_cons, List.not_mem_nil, or_false] at hx
  subst hx
  subst h
  exact rfits42 n hn

theorem rwide42 (n : Int) (hn : In n) : Ret Try.prog 19 [.int .i64 n, .int .i64 (42 : Nat)] (.bool (sgnF n 42 == n || lowF n 42 == n)) := by
  cases hf : (sgnF n 42 == n) with
  | true =>
    have h := retV (val := fun _ => n) (F := []) holds_nil (rft42 n hn hf) (by kernel_rfl) (by kernel_rfl) (f := 19) (args := [.sx .i64 (.a 0), (.v (.int .i64 (.ofNat 42)))]) (v := .v (.bool true)) (by kernel_rfl) (by kernel_rfl) (by kernel_rfl)
    exact h
  | false =>
    have p := (pl42 n hn).fit
    rw [beq_eq_false_iff_ne] at hf
    obtain ⟨h1, h2⟩ := id hn
    have pl := (pl42 n hn).low
    by_cases hc : 1 ≤ n
    · have hh : Holds (fun _ => n) [.ge (.a 0) 1] := holds_cons hc holds_nil
      have h := retV hh (rft42 n hn (beq_eq_false_iff_ne.2 hf)) (by kernel_rfl) (by kernel_rfl) (f := 19) (args := [.sx .i64 (.a 0), (.v (.int .i64 (.ofNat 42)))]) (v := .sb (.eq (.shr (.a 0) 42) (.c 0))) (by kernel_rfl) (by kernel_rfl) (by kernel_rfl)
      have e : (false || lowF n 42 == n) = (n.fdiv (2 ^ 42) == 0) := by
        rw [Bool.false_or, Bool.eq_iff_iff, beq_iff_eq, beq_iff_eq, pl, fdivP]
        omega
      rw [e]
      exact h
    · have hh : Holds (fun _ => n) [.le (.a 0) 0] := holds_cons (show n ≤ 0 by omega) holds_nil
      have h := retV hh (rft42 n hn (beq_eq_false_iff_ne.2 hf)) (by kernel_rfl) (by kernel_rfl) (f := 19) (args := [.sx .i64 (.a 0), (.v (.int .i64 (.ofNat 42)))]) (v := .v (.bool false)) (by kernel_rfl) (by kernel_rfl) (by kernel_rfl)
      have e : (false || lowF n 42 == n) = false := by
        rw [Bool.false_or, beq_eq_false_iff_ne]
        intro hl
        rw [pl] at hl
        simp only [Nat.reduceSub] at *
        apply hf
        rw [p]
        omega
      rw [e]
      exact h

theorem rlow43 (n : Int) (hn : In n) : Ret Try.prog 23 [.int .i64 n, .int .i64 (43 : Nat)] (.int .i64 (lowF n 43)) := by
  have h := retV (val := fun _ => n) (F := []) holds_nil tabNil rfl rfl (f := 23) (args := [.sx .i64 (.a 0), (.v (.int .i64 (.ofNat 43)))]) (v := .sx .i64 (chain 43)) (by kernel_rfl) (by kernel_rfl) (by kernel_rfl)
  simp only [concs, conc, chain_eval _ 43 (by omega)] at h
  have e : IntKind.i64.wrap (n % 2 ^ 43) = lowF n 43 := by
    obtain ⟨h1, h2⟩ := hn
    simp only [wrapI, lowF]
    omega
  rw [← e]
  exact h

theorem rlt43 (n : Int) (hn : In n) : TabOK Try.prog (fun j => [n, lowF n 43].getD j 0) sl0 [(23, [.sx .i64 (.a 0), (.v (.int .i64 (.ofNat 43)))], .sx .i64 (.a 1))] := by
  intro x hx
  simp only [List.mem_cons, List.not_mem_nil, or_false] at hx
  subst hx
  exact rlow43 n hn

theorem rsign43 (n : Int) (hn : In n) : Ret Try.prog 21 [.int .i64 n, .int .i64 (43 : Nat)] (.int .i64 (sgnF n 43)) := by
  have hb : (SX.eval (fun j => [n, lowF n 43].getD j 0) (.and .i64 (.shr (.a 1) 42) (.c 1))) = lowF n 43 / 2 ^ 42 % 2 := by
    show IntKind.i64.wrap (BitVec.ofInt IntKind.i64.bits ((lowF n 43).fdiv (2 ^ 42)) &&& BitVec.ofInt IntKind.i64.bits 1).toNat = _
    rw [andOne, fdivP]
  obtain ⟨h1, h2⟩ := id hn
  by_cases hc : lowF n 43 / 2 ^ 42 % 2 = 1
  · have hh : Holds (fun j => [n, lowF n 43].getD j 0) [.is (.and .i64 (.shr (.a 1) 42) (.c 1)) 1] := holds_cons (hb.trans hc) holds_nil
    have h := retV hh (rlt43 n hn) (by kernel_rfl) (by kernel_rfl) (f := 21) (args := [.sx .i64 (.a 0), (.v (.int .i64 (.ofNat 43)))]) (v := .sx .i64 (.wrap .i64 (.sub (.a 1) (.c 8796093022208)))) (by kernel_rfl) (by kernel_rfl) (by kernel_rfl)
    have e : IntKind.i64.wrap (lowF n 43 - 8796093022208) = sgnF n 43 := by
      simp only [wrapI, lowF, sgnF] at hc ⊢
      omega
    rw [← e]
    exact h
  · have hh : Holds (fun j => [n, lowF n 43].getD j 0) [.ne (.and .i64 (.shr (.a 1) 42) (.c 1)) 1] := holds_cons (by show _ ≠ _; rw [hb]; exact hc) holds_nil
    have h := retV hh (rlt43 n hn) (by kernel_rfl) (by kernel_rfl) (f := 21) (args := [.sx .i64 (.a 0), (.v (.int .i64 (.ofNat 43)))]) (v := .sx .i64 (.a 1)) (by kernel_rfl) (by kernel_rfl) (by kernel_rfl)
    have e : lowF n 43 = sgnF n 43 := by
      simp only [lowF, sgnF] at hc ⊢
      omega
    rw [← e]
    exact h

theorem rfits43 (n : Int) (hn : In n) : Ret Try.prog 17 [.int .i64 n, .int .i64 (43 : Nat)] (.bool (sgnF n 43 == n)) := by
  have hb : (SX.eval (fun _ => n) (.shr (.a 0) 42)) = n / 2 ^ 42 := by show n.fdiv (2 ^ 42) = _; rw [fdivP]
  have p := (pl43 n hn).fit
  obtain ⟨h1, h2⟩ := id hn
  by_cases hc : n / 2 ^ 42 = 0
  · have hh : Holds (fun _ => n) [.is (.shr (.a 0) 42) 0] := holds_cons (hb.trans hc) holds_nil
    have h := retV hh tabNil rfl rfl (f := 17) (args := [.sx .i64 (.a 0), (.v (.int .i64 (.ofNat 43)))]) (v := .v (.bool true)) (by kernel_rfl) (by kernel_rfl) (by kernel_rfl)
    have e : (sgnF n 43 == n) = true := by
      rw [beq_iff_eq, p]
      simp only [Nat.reduceSub] at *
      omega
    rw [e]
    exact h
  · have hh : Holds (fun _ => n) [.ne (.shr (.a 0) 42) 0] := holds_cons (by show _ ≠ _; rw [hb]; exact hc) holds_nil
    have h := retV hh tabNil rfl rfl (f := 17) (args := [.sx .i64 (.a 0), (.v (.int .i64 (.ofNat 43)))]) (v := .sb (.eq (.shr (.a 0) 42) (.c (-1)))) (by kernel_rfl) (by kernel_rfl) (by kernel_rfl)
    have e : (sgnF n 43 == n) = (n.fdiv (2 ^ 42) == -1) := by
      rw [Bool.eq_iff_iff, beq_iff_eq, beq_iff_eq, p, fdivP]
      simp only [Nat.reduceSub] at *
      omega
    rw [e]
    exact h

theorem rft43 (n : Int) (hn : In n) {b : Bool} (h : (sgnF n 43 == n) = b) : TabOK Try.prog (fun _ => n) sl0 [(17, [.sx .i64 (.a 0), (.v (.int .i64 (.ofNat 43)))], .v (.bool b))] := by
  intro x hx
  simp only [List.mem_cons, List.not_mem_nil, or_false] at hx
  subst hx
  subst h
  exact rfits43 n hn

theorem rwide43 (n : Int) (hn : In n) : Ret Try.prog 19 [.int .i64 n, .int .i64 (43 : Nat)] (.bool (sgnF n 43 == n || lowF n 43 == n)) := by
  cases hf : (sgnF n 43 == n) with
  | true =>
    have h := retV (val := fun _ => n) (F := []) holds_nil (rft43 n hn hf) (by kernel_rfl) (by kernel_rfl) (f := 19) (args := [.sx .i64 (.a 0), (.v (.int .i64 (.ofNat 43)))]) (v := .v (.bool true)) (by kernel_rfl) (by kernel_rfl) (by kernel_rfl)
    exact h
  | false =>
    have p := (pl43 n hn).fit
    rw [beq_eq_false_iff_ne] at hf
    obtain ⟨h1, h2⟩ := id hn
    have pl := (pl43 n hn).low
    by_cases hc : 1 ≤ n
    · have hh : Holds (fun _ => n) [.ge (.a 0) 1] := holds_cons hc holds_nil
      have h := retV hh (rft43 n hn (beq_eq_false_iff_ne.2 hf)) (by kernel_rfl) (by kernel_rfl) (f := 19) (args := [.sx .i64 (.a 0), (.v (.int .i64 (.ofNat 43)))]) (v := .sb (.eq (.shr (.a 0) 43) (.c 0))) (by kernel_rfl) (by kernel_rfl) (by kernel_rfl)
      have e : (false || lowF n 43 == n) = (n.fdiv (2 ^ 43) == 0) := by
        rw [Bool.false_or, Bool.eq_iff_iff, beq_iff_eq, beq_iff_eq, pl, fdivP]
        omega
      rw [e]
      exact h
    · have hh : Holds (fun _ => n) [.le (.a 0) 0] := holds_cons (show n ≤ 0 by omega) holds_nil
      have h := retV hh (rft43 n hn (beq_eq_false_iff_ne.2 hf)) (by kernel_rfl) (by kernel_rfl) (f := 19) (args := [.sx .i64 (.a 0), (.v (.int .i64 (.ofNat 43)))]) (v := .v (.bool false)) (by kernel_rfl) (by kernel_rfl) (by kernel_rfl)
      have e : (false || lowF n 43 == n) = false := by
        rw [Bool.false_or, beq_eq_false_iff_ne]
        intro hl
        rw [pl] at hl
        simp only [Nat.reduceSub] at *
        apply hf
        rw [p]
        omega
      rw [e]
      exact h

theorem rlow44 (n : Int) (hn : In n) : Ret Try.prog 23 [.int .i64 n, .int .i64 (44 : Nat)] (.int .i64 (lowF n 44)) := by
  have h := retV (val := fun _ => n) (F := []) holds_nil tabNil rfl rfl (f := 23) (args := [.sx .i64 (.a 0), (.v (.int .i64 (.ofNat 44)))]) (v := .sx .i64 (chain 44)) (by kernel_rfl) (by kernel_rfl) (by kernel_rfl)
  simp only [concs, conc, chain_eval _ 44 (by omega)] at h
  have e : IntKind.i64.wrap (n % 2 ^ 44) = lowF n 44 := by
    obtain ⟨h1, h2⟩ := hn
    simp only [wrapI, lowF]
    omega
  rw [← e]
  exact h

theorem rlt44 (n : Int) (hn : In n) : TabOK Try.prog (fun j => [n, lowF n 44].getD j 0) sl0 [(23, [.sx .i64 (.a 0), (.v (.int .i64 (.ofNat 44)))], .sx .i64 (.a 1))] := by
  intro x hx
  simp only [List.mem_cons, List.not_mem_nil, or_false] at hx
  subst hx
  exact rlow44 n hn

theorem rsign44 (n : Int) (hn : In n) : Ret Try.prog 21 [.int .i64 n, .int .i64 (44 : Nat)] (.int .i64 (sgnF n 44)) := by
  have hb : (SX.eval (fun j => [n, lowF n 44].getD j 0) (.and .i64 (.shr (.a 1) 43) (.c 1))) = lowF n 44 / 2 ^ 43 % 2 := by
    show IntKind.i64.wrap (BitVec.ofInt IntKind.i64.bits ((lowF n 44).fdiv (2 ^ 43)) &&& BitVec.ofInt IntKind.i64.bits 1).toNat = _
    rw [andOne, fdivP]
  obtain ⟨h1, h2⟩ := id hn
  by_cases hc : lowF n 44 / 2 ^ 43 % 2 = 1
  · have hh : Holds (fun j => [n, lowF n 44].getD j 0) [.is (.and .i64 (.shr (.a 1) 43) (.c 1)) 1] := holds_cons (hb.trans hc) holds_nil
    have h := retV hh (rlt44 n hn) (by kernel_rfl) (by kernel_rfl) (f := 21) (args := [.sx .i64 (.a 0), (.v (.int .i64 (.ofNat 44)))]) (v := .sx .i64 (.wrap .i64 (.sub (.a 1) (.c 17592186044416)))) (by kernel_rfl) (by kernel_rfl) (by kernel_rfl)
    have e : IntKind.i64.wrap (lowF n 44 - 17592186044416) = sgnF n 44 := by
      simp only [wrapI, lowF, sgnF] at hc ⊢
      omega
    rw [← e]
    exact h
  · have hh : Holds (fun j => [n, lowF n 44].getD j 0) [.ne (.and .i64 (.shr (.a 1) 43) (.c 1)) 1] := holds_cons (by show _ ≠ _; rw [hb]; exact hc) holds_nil
    have h := retV hh (rlt44 n hn) (by kernel_rfl) (by kernel_rfl) (f := 21) (args := [.sx .i64 (.a 0), (.v (.int .i64 (.ofNat 44)))]) (v := .sx .i64 (.a 1)) (by kernel_rfl) (by kernel_rfl) (by kernel_rfl)
    have e : lowF n 44 = sgnF n 44 := by
      simp only [lowF, sgnF] at hc ⊢
      omega
    rw [← e]
    exact h

theorem rfits44 (n : Int) (hn : In n) : Ret Try.prog 17 [.int .i64 n, .int .i64 (44 : Nat)] (.bool (sgnF n 44 == n)) := by
  have hb : (SX.eval (fun _ => n) (.shr (.a 0) 43)) = n / 2 ^ 43 := by show n.fdiv (2 ^ 43) = _; rw [fdivP]
  have p := (pl44 n hn).fit
  obtain ⟨h1, h2⟩ := id hn
  by_cases hc : n / 2 ^ 43 = 0
  · have hh : Holds (fun _ => n) [.is (.shr (.a 0) 43) 0] := holds_cons (hb.trans hc) holds_nil
    have h := retV hh tabNil rfl rfl (f := 17) (args := [.sx .i64 (.a 0), (.v (.int .i64 (.ofNat 44)))]) (v := .v (.bool true)) (by kernel_rfl) (by kernel_rfl) (by kernel_rfl)
    have e : (sgnF n 44 == n) = true := by
      rw [beq_iff_eq, p]
      simp only [Nat.reduceSub] at *
      omega
    rw [e]
    exact h
  · have hh : Holds (fun _ => n) [.ne (.shr (.a 0) 43) 0] := holds_cons (by show _ ≠ _; rw [hb]; exact hc) holds_nil
    have h := retV hh tabNil rfl rfl (f := 17) (args := [.sx .i64 (.a 0), (.v (.int .i64 (.ofNat 44)))]) (v := .sb (.eq (.shr (.a 0) 43) (.c (-1)))) (by kernel_rfl) (by kernel_rfl) (by kernel_rfl)
    have e : (sgnF n 44 == n) = (n.fdiv (2 ^ 43) == -1) := by
      rw [Bool.eq_iff_iff, beq_iff_eq, beq_iff_eq, p, fdivP]
      simp only [Nat.reduceSub] at *
      omega
    rw [e]
    exact h

theorem rft44 (n : Int) (hn : In n) {b : Bool} (h : (sgnF n 44 == n) = b) : TabOK Try.prog (fun _ => n) sl0 [(17, [.sx .i64 (.a 0), (.v (.int .i64 (.ofNat 44)))], .v (.bool b))] := by
  intro x hx
  simp only [List.mem_cons, List.not_mem_nil, or_false] at hx
  subst hx
  subst h
  exact rfits44 n hn

theorem rwide44 (n : Int) (hn : In n) : Ret Try.prog 19 [.int .i64 n, .int .i64 (44 : Nat)] (.bool (sgnF n 44 == n || lowF n 44 == n)) := by
  cases hf : (sgnF n 44 == n) with
  | true =>
    have h := retV (val := fun _ => n) (F := []) holds_nil (rft44 n hn hf) (by kernel_rfl) (by kernel_rfl) (f := 19) (args := [.sx .i64 (.a 0), (.v (.int .i64 (.ofNat 44)))]) (v := .v (.bool true)) (by kernel_rfl) (by kernel_rfl) (by kernel_rfl)
    exact h
  | false =>
    have p := (pl44 n hn).fit
    rw [beq_eq_false_iff_ne] at hf
    obtain ⟨h1, h2⟩ := id hn
    have pl := (pl44 n hn).low
    by_cases hc : 1 ≤ n
    · have hh : Holds (fun _ => n) [.ge (.a 0) 1] := holds_cons hc holds_nil
      have h := retV hh (rft44 n hn (beq_eq_false_iff_ne.2 hf)) (by kernel_rfl) (by kernel_rfl) (f := 19) (args := [.sx .i64 (.a 0), (.v (.int .i64 (.ofNat 44)))]) (v := .sb (.eq (.shr (.a 0) 44) (.c 0))) (by kernel_rfl) (by kernel_rfl) (by kernel_rfl)
      have e : (false || lowF n 44 == n) = (n.fdiv (2 ^ 44) == 0) := by
        rw [Bool.false_or, Bool.eq_iff_iff, beq_iff_eq, beq_iff_eq, pl, fdivP]
        omega
      rw [e]
      exact h
    · have hh : Holds (fun _ => n) [.le (.a 0) 0] := holds_cons (show n ≤ 0 by omega) holds_nil
      have h := retV hh (rft44 n hn (beq_eq_false_iff_ne.2 hf)) (by kernel_rfl) (by kernel_rfl) (f := 19) (args := [.sx .i64 (.a 0), (.v (.int .i64 (.ofNat 44)))]) (v := .v (.bool false)) (by kernel_rfl) (by kernel_rfl) (by kernel_rfl)
      have e : (false || lowF n 44 == n) = false := by
        rw [Bool.false_or, beq_eq_false_iff_ne]
        intro hl
        rw [pl] at hl
        simp only [Nat.reduceSub] at *
        apply hf
        rw [p]
        omega
      rw [e]
      exact h

theorem rlow45 (n : Int) (hn : In n) : Ret Try.prog 23 [.int .i64 n, .int .i64 (45 : Nat)] (.int .i64 (lowF n 45)) := by
  have h := retV (val := fun _ => n) (F := []) holds_nil tabNil rfl rfl (f := 23) (args := [.sx .i64 (.a 0), (.v (.int .i64 (.ofNat 45)))]) (v := .sx .i64 (chain 45)) (by kernel_rfl) (by kernel_rfl) (by kernel_rfl)
  simp only [concs, conc, chain_eval _ 45 (by omega)] at h
  have e : IntKind.i64.wrap (n % 2 ^ 45) = lowF n 45 := by
    obtain ⟨h1, h2⟩ := hn
    simp only [wrapI, lowF]
    omega
  rw [← e]
  exact h

theorem rlt45 (n : Int) (hn : In n) : TabOK Try.prog (fun j => [n, lowF n 45].getD j 0) sl0 [(23, [.sx .i64 (.a 0), (.v (.int .i64 (.ofNat 45)))], .sx .i64 (.a 1))] := by
  intro x hx
  simp only [List.mem_cons, List.not_mem_nil, or_false] at hx
  subst hx
  exact rlow45 n hn

theorem rsign45 (n : Int) (hn : In n) : Ret Try.prog 21 [.int .i64 n, .int .i64 (45 : Nat)] (.int .i64 (sgnF n 45)) := by
  have hb : (SX.eval (fun j => [n, lowF n 45].getD j 0) (.and .i64 (.shr (.a 1) 44) (.c 1))) = lowF n 45 / 2 ^ 44 % 2 := by
    show IntKind.i64.wrap (BitVec.ofInt IntKind.i64.bits ((lowF n 45).fdiv (2 ^ 44)) &&& BitVec.ofInt IntKind.i64.bits 1).toNat = _
    rw [andOne, fdivP]
  obtain ⟨h1, h2⟩ := id hn
  by_cases hc : lowF n 45 / 2 ^ 44 % 2 = 1
  · have hh : Holds (fun j => [n, lowF n 45].getD j 0) [.is (.and .i64 (.shr (.a 1) 44) (.c 1)) 1] := holds_cons (hb.trans hc) holds_nil
    have h := retV hh (rlt45 n hn) (by kernel_rfl) (by kernel_rfl) (f := 21) (args := [.sx .i64 (.a 0), (.v (.int .i64 (.ofNat 45)))]) (v := .sx .i64 (.wrap .i64 (.sub (.a 1) (.c 35184372088832)))) (by kernel_rfl) (by kernel_rfl) (by kernel_rfl)
    have e : IntKind.i64.wrap (lowF n 45 - 35184372088832) = sgnF n 45 := by
      simp only [wrapI, lowF, sgnF] at hc ⊢
      omega
    rw [← e]
    exact h
  · have hh : Holds (fun j => [n, lowF n 45].getD j 0) [.ne (.and .i64 (.shr (.a 1) 44) (.c 1)) 1] := holds_cons (by show _ ≠ _; rw [hb]; exact hc) holds_nil
    have h := retV hh (rlt45 n hn) (by kernel_rfl) (by kernel_rfl) (f := 21) (args := [.sx .i64 (.a 0), (.v (.int .i64 (.ofNat 45)))]) (v := .sx .i64 (.a 1)) (by kernel_rfl) (by kernel_rfl) (by kernel_rfl)
    have e : lowF n 45 = sgnF n 45 := by
      simp only [lowF, sgnF] at hc ⊢
      omega
    rw [← e]
    exact h

theorem rfits45 (n : Int) (hn : In n) : Ret Try.prog 17 [.int .i64 n, .int .i64 (45 : Nat)] (.bool (sgnF n 45 == n)) := by
  have hb : (SX.eval (fun _ => n) (.shr (.a 0) 44)) = n / 2 ^ 44 := by show n.fdiv (2 ^ 44) = _; rw [fdivP]
  have p := (pl45 n hn).fit
  obtain ⟨h1, h2⟩ := id hn
  by_cases hc : n / 2 ^ 44 = 0
  · have hh : Holds (fun _ => n) [.is (.shr (.a 0) 44) 0] := holds_cons (hb.trans hc) holds_nil
    have h := retV hh tabNil rfl rfl (f := 17) (args := [.sx .i64 (.a 0), (.v (.int .i64 (.ofNat 45)))]) (v := .v (.bool true)) (by kernel_rfl) (by kernel_rfl) (by kernel_rfl)
    have e : (sgnF n 45 == n) = true := by
      rw [beq_iff_eq, p]
      simp only [Nat.reduceSub] at *
      omega
    rw [e]
    exact h
  · have hh : Holds (fun _ => n) [.ne (.shr (.a 0) 44) 0] := holds_cons (by show _ ≠ _; rw [hb]; exact hc) holds_nil
    have h := retV hh tabNil rfl rfl (f := 17) (args := [.sx .i64 (.a 0), (.v (.int .i64 (.ofNat 45)))]) (v := .sb (.eq (.shr (.a 0) 44) (.c (-1)))) (by kernel_rfl) (by kernel_rfl) (by kernel_rfl)
    have e : (sgnF n 45 == n) = (n.fdiv (2 ^ 44) == -1) := by
      rw [Bool.eq_iff_iff, beq_iff_eq, beq_iff_eq, p, fdivP]
      simp only [Nat.reduceSub] at *
      omega
    rw [e]
    exact h

theorem rft45 (n : Int) (hn : In n) {b : Bool} (h : (sgnF n 45 == n) = b) : TabOK Try.prog (fun _ => n) sl0 [(17, [.sx .i64 (.a 0), (.v (.int .i64 (.ofNat 45)))], .v (.bool b))] := by
  intro x hx
  simp only [List.mem_cons, List.not_mem_nil, or_false] at hx
  subst hx
  subst h
  exact rfits45 n hn

theorem rwide45 (n : Int) (hn : In n) : Ret Try.prog 19 [.int .i64 n, .int .i64 (45 : Nat)] (.bool (sgnF n 45 == n || lowF n 45 == n)) := by
  cases hf : (sgnF n 45 == n) with
  | true =>
    have h := retV (val := fun _ => n) (F := []) holds_nil (rft45 n hn hf) (by kernel_rfl) (by kernel_rfl) (f := 19) (args := [.sx .i64 (.a 0), (.v (.int .i64 (.ofNat 45)))]) (v := .v (.bool true)) (by kernel_rfl) (by kernel_rfl) (by kernel_rfl)
    exact h
  | false =>
    have p := (pl45 n hn).fit
    rw [beq_eq_false_iff_ne] at hf
    obtain ⟨h1, h2⟩ := id hn
    have pl := (pl45 n hn).low
    by_cases hc : 1 ≤ n
    · have hh : Holds (fun _ => n) [.ge (.a 0) 1] := holds_cons hc holds_nil
      have h := retV hh (rft45 n hn (beq_eq_false_iff_ne.2 hf)) (by kernel_rfl) (by kernel_rfl) (f := 19) (args := [.sx .i64 (.a 0), (.v (.int .i64 (.ofNat 45)))]) (v := .sb (.eq (.shr (.a 0) 45) (.c 0))) (by kernel_rfl) (by kernel_rfl) (by kernel_rfl)
      have e : (false || lowF n 45 == n) = (n.fdiv (2 ^ 45) == 0) := by
        rw [Bool.false_or, Bool.eq_iff_iff, beq_iff_eq, beq_iff_eq, pl, fdivP]
        omega
      rw [e]
      exact h
    · have hh : Holds (fun _ => n) [.le (.a 0) 0] := holds_cons (show n ≤ 0 by omega) holds_nil
      have h := retV hh (rft45 n hn (beq_eq_false_iff_ne.2 hf)) (by kernel_rfl) (by kernel_rfl) (f := 19) (args := [.sx .i64 (.a 0), (.v (.int .i64 (.ofNat 45)))]) (v := .v (.bool false)) (by kernel_rfl) (by kernel_rfl) (by kernel_rfl)
      have e : (false || lowF n 45 == n) = false := by
        rw [Bool.false_or, beq_eq_false_iff_ne]
        intro hl
        rw [pl] at hl
        simp only [Nat.reduceSub] at *
        apply hf
        rw [p]
        omega
      rw [e]
      exact h

theorem rlow46 (n : Int) (hn : In n) : Ret Try.prog 23 [.int .i64 n, .int .i64 (46 : Nat)] (.int .i64 (lowF n 46)) := by
  have h := retV (val := fun _ => n) (F := []) holds_nil tabNil rfl rfl (f := 23) (args := [.sx .i64 (.a 0), (.v (.int .i64 (.ofNat 46)))]) (v := .sx .i64 (chain 46)) (by kernel_rfl) (by kernel_rfl) (by kernel_rfl)
  simp only [concs, conc, chain_eval _ 46 (by omega)] at h
  have e : IntKind.i64.wrap (n % 2 ^ 46) = lowF n 46 := by
    obtain ⟨h1, h2⟩ := hn
    simp only [wrapI, lowF]
    omega
  rw [← e]
  exact h

theorem rlt46 (n : Int) (hn : In n) : TabOK Try.prog (fun j => [n, lowF n 46].getD j 0) sl0 [(23, [.sx .i64 (.a 0), (.v (.int .i64 (.ofNat 46)))], .sx .i64 (.a 1))] := by
  intro x hx
  simp only [List.mem_cons, List.not_mem_nil, or_false] at hx
  subst hx
  exact rlow46 n hn

theorem rsign46 (n : Int) (hn : In n) : Ret Try.prog 21 [.int .i64 n, .int .i64 (46 : Nat)] (.int .i64 (sgnF n 46)) := by
  have hb : (SX.eval (fun j => [n, lowF n 46].getD j 0) (.and .i64 (.shr (.a 1) 45) (.c 1))) = lowF n 46 / 2 ^ 45 % 2 := by
    show IntKind.i64.wrap (BitVec.ofInt IntKind.i64.bits ((lowF n 46).fdiv (2 ^ 45)) &&& BitVec.ofInt IntKind.i64.bits 1).toNat = _
    rw [andOne, fdivP]
  obtain ⟨h1, h2⟩ := id hn
  by_cases hc : lowF n 46 / 2 ^ 45 % 2 = 1
  · have hh : Holds (fun j => [n, lowF n 46].getD j 0) [.is (.and .i64 (.shr (.a 1) 45) (.c 1)) 1] := holds_cons (hb.trans hc) holds_nil
    have h := retV hh (rlt46 n hn) (by kernel_rfl) (by kernel_rfl) (f := 21) (args := [.sx .i64 (.a 0), (.v (.int .i64 (.ofNat 46)))]) (v := .sx .i64 (.wrap .i64 (.sub (.a 1) (.c 70368744177664)))) (by kernel_rfl) (by kernel_rfl) (by kernel_rfl)
    have e : IntKind.i64.wrap (lowF n 46 - 70368744177664) = sgnF n 46 := by
      simp only [wrapI, lowF, sgnF] at hc ⊢
      omega
    rw [← e]
    exact h
  · have hh : Holds (fun j => [n, lowF n 46].getD j 0) [.ne (.and .i64 (.shr (.a 1) 45) (.c 1)) 1] := holds_cons (by show _ ≠ _; rw [hb]; exact hc) holds_nil
    have h := retV hh (rlt46 n hn) (by kernel_rfl) (by kernel_rfl) (f := 21) (args := [.sx .i64 (.a 0), (.v (.int .i64 (.ofNat 46)))]) (v := .sx .i64 (.a 1)) (by kernel_rfl) (by kernel_rfl) (by kernel_rfl)
    have e : lowF n 46 = sgnF n 46 := by
      simp only [lowF, sgnF] at hc ⊢
      omega
    rw [← e]
    exact h

theorem rfits46 (n : Int) (hn : In n) : Ret Try.prog 17 [.int .i64 n, .int .i64 (46 : Nat)] (.bool (sgnF n 46 == n)) := by
  have hb : (SX.eval (fun _ => n) (.shr (.a 0) 45)) = n / 2 ^ 45 := by show n.fdiv (2 ^ 45) = _; rw [fdivP]
  have p := (pl46 n hn).fit
  obtain ⟨h1, h2⟩ := id hn
  by_cases hc : n / 2 ^ 45 = 0
  · have hh : Holds (fun _ => n) [.is (.shr (.a 0) 45) 0] := holds_cons (hb.trans hc) holds_nil
    have h := retV hh tabNil rfl rfl (f := 17) (args := [.sx .i64 (.a 0), (.v (.int .i64 (.ofNat 46)))]) (v := .v (.bool true)) (by kernel_rfl) (by kernel_rfl) (by kernel_rfl)
    have e : (sgnF n 46 == n) = true := by
      rw [beq_iff_eq, p]
      simp only [Nat.reduceSub] at *
      omega
    rw [e]
    exact h
  · have hh : Holds (fun _ => n) [.ne (.shr (.a 0) 45) 0] := holds_cons (by show _ ≠ _; rw [hb]; exact hc) holds_nil
    have h := retV hh tabNil rfl rfl (f := 17) (args := [.sx .i64 (.a 0), (.v (.int .i64 (.ofNat 46)))]) (v := .sb (.eq (.shr (.a 0) 45) (.c (-1)))) (by kernel_rfl) (by kernel_rfl) (by kernel_rfl)
    have e : (sgnF n 46 == n) = (n.fdiv (2 ^ 45) == -1) := by
      rw [Bool.eq_iff_iff, beq_iff_eq, beq_iff_eq, p, fdivP]
      simp only [Nat.reduceSub] at *
      omega
    rw [e]
    exact h

theorem rft46 (n : Int) (hn : In n) {b : Bool} (h : (sgnF n 46 == n) = b) : TabOK Try.prog (fun _ => n) sl0 [(17, [.sx .i64 (.a 0), (.v (.int .i64 (.ofNat 46)))], .v (.bool b))] := by
  intro x hx
  simp only [List.mem_cons, List.not_mem_nil, or_false] at hx
  subst hx
  subst h
  exact rfits46 n hn

theorem rwide46 (n : Int) (hn : In n) : Ret Try.prog 19 [.int .i64 n, .int .i64 (46 : Nat)] (.bool (sgnF n 46 == n || lowF n 46 == n)) := by
  cases hf : (sgnF n 46 == n) with
  | true =>
    have h := retV (val := fun _ => n) (F := []) holds_nil (rft46 n hn hf) (by kernel_rfl) (by kernel_rfl) (f := 19) (args := [.sx .i64 (.a 0), (.v (.int .i64 (.ofNat 46)))]) (v := .v (.bool true)) (by kernel_rfl) (by kernel_rfl) (by kernel_rfl)
    exact h
  | false =>
    have p := (pl46 n hn).fit
    rw [beq_eq_false_iff_ne] at hf
    obtain ⟨h1, h2⟩ := id hn
    have pl := (pl46 n hn).low
    by_cases hc : 1 ≤ n
    · have hh : Holds (fun _ => n) [.ge (.a 0) 1] := holds_cons hc holds_nil
      have h := retV hh (rft46 n hn (beq_eq_false_iff_ne.2 hf)) (by kernel_rfl) (by kernel_rfl) (f := 19) (args := [.sx .i64 (.a 0), (.v (.int .i64 (.ofNat 46)))]) (v := .sb (.eq (.shr (.a 0) 46) (.c 0))) (by kernel_rfl) (by kernel_rfl) (by kernel_rfl)
      have e : (false || lowF n 46 == n) = (n.fdiv (2 ^ 46) == 0) := by
        rw [Bool.false_or, Bool.eq_iff_iff, beq_iff_eq, beq_iff_eq, pl, fdivP]
        omega
      rw [e]
      exact h
    · have hh : Holds (fun _ => n) [.le (.a 0) 0] := holds_cons (show n ≤ 0 by omega) holds_nil
      have h := retV hh (rft46 n hn (beq_eq_false_iff_ne.2 hf)) (by kernel_rfl) (by kernel_rfl) (f := 19) (args := [.sx .i64 (.a 0), (.v (.int .i64 (.ofNat 46)))]) (v := .v (.bool false)) (by kernel_rfl) (by kernel_rfl) (by kernel_rfl)
      have e : (false || lowF n 46 == n) = false := by
        rw [Bool.false_or, beq_eq_false_iff_ne]
        intro hl
        rw [pl] at hl
        simp only [Nat.reduceSub] at *
        apply hf
        rw [p]
        omega
      rw [e]
      exact h

theorem rlow47 (n : Int) (hn : In n) : Ret Try.prog 23 [.int .i64 n, .int .i64 (47 : Nat)] (.int .i64 (lowF n 47)) := by
  have h := retV (val := fun _ => n) (F := []) holds_nil tabNil rfl rfl (f := 23) (args := [.sx .i64 (.a 0), (.v (.int .i64 (.ofNat 47)))]) (v := .sx .i64 (chain 47)) (by kernel_rfl) (by kernel_rfl) (by kernel_rfl)
  simp only [concs, conc, chain_eval _ 47 (by omega)] at h
  have e : IntKind.i64.wrap (n % 2 ^ 47) = lowF n 47 := by
    obtain ⟨h1, h2⟩ := hn
    simp only [wrapI, lowF]
    omega
  rw [← e]
  exact h

theorem rlt47 (n : Int) (hn : In n) : TabOK Try.prog (fun j => [n, lowF n 47].getD j 0) sl0 [(23, [.sx .i64 (.a 0), (.v (.int .i64 (.ofNat 47)))], .sx .i64 (.a 1))] := by
  intro x hx
  simp only [List.mem_cons, List.not_mem_nil, or_false] at hx
  subst hx
  exact rlow47 n hn

theorem rsign47 (n : Int) (hn : In n) : Ret Try.prog 21 [.int .i64 n, .int .i64 (47 : Nat)] (.int .i64 (sgnF n 47)) := by
  have hb : (SX.eval (fun j => [n, lowF n 47].getD j 0) (.and .i64 (.shr (.a 1) 46) (.c 1))) = lowF n 47 / 2 ^ 46 % 2 := by
    show IntKind.i64.wrap (BitVec.ofInt IntKind.i64.bits ((lowF n 47).fdiv (2 ^ 46)) &&& BitVec.ofInt IntKind.i64.bits 1).toNat = _
    rw [andOne, fdivP]
  obtain ⟨h1, h2⟩ := id hn
  by_cases hc : lowF n 47 / 2 ^ 46 % 2 = 1
  · have hh : Holds (fun j => [n, lowF n 47].getD j 0) [.is (.and .i64 (.shr (.a 1) 46) (.c 1)) 1] := holds_cons (hb.trans hc) holds_nil
    have h := retV hh (rlt47 n hn) (by kernel_rfl) (by kernel_rfl) (f := 21) (args := [.sx .i64 (.a 0), (.v (.int .i64 (.ofNat 47)))]) (v := .sx .i64 (.wrap .i64 (.sub (.a 1) (.c 140737488355328)))) (by kernel_rfl) (by kernel_rfl) (by kernel_rfl)
    have e : IntKind.i64.wrap (lowF n 47 - 140737488355328) = sgnF n 47 := by
      simp only [wrapI, lowF, sgnF] at hc ⊢
      omega
    rw [← e]
    exact h
  · have hh : Holds (fun j => [n, lowF n 47].getD j 0) [.ne (.and .i64 (.shr (.a 1) 46) (.c 1)) 1] := holds_cons (by show _ ≠ _; rw [hb]; exact hc) holds_nil
    have h := retV hh (rlt47 n hn) (by kernel_rfl) (by kernel_rfl) (f := 21) (args := [.sx .i64 (.a 0), (.v (.int .i64 (.ofNat 47)))]) (v := .sx .i64 (.a 1)) (by kernel_rfl) (by kernel_rfl) (by kernel_rfl)
    have e : lowF n 47 = sgnF n 47 := by
      simp only [lowF, sgnF] at hc ⊢
      omega
    rw [← e]
    exact h

theorem rfits47 (n : Int) (hn : In n) : Ret Try.prog 17 [.int .i64 n, .int .i64 (47 : Nat)] (.bool (sgnF n 47 == n)) := by
  have hb : (SX.eval (fun _ => n) (.shr (.a 0) 46)) = n / 2 ^ 46 := by show n.fdiv (2 ^ 46) = _; rw [fdivP]
  have p := (pl47 n hn).fit
  obtain ⟨h1, h2⟩ := id hn
  by_cases hc : n / 2 ^ 46 = 0
  · have hh : Holds (fun _ => n) [.is (.shr (.a 0) 46) 0] := holds_cons (hb.trans hc) holds_nil
    have h := retV hh tabNil rfl rfl (f := 17) (args := [.sx .i64 (.a 0), (.v (.int .i64 (.ofNat 47)))]) (v := .v (.bool true)) (by kernel_rfl) (by kernel_rfl) (by kernel_rfl)
    have e : (sgnF n 47 == n) = true := by
      rw [beq_iff_eq, p]
      simp only [Nat.reduceSub] at *
      omega
    rw [e]
    exact h
  · have hh : Holds (fun _ => n) [.ne (.shr (.a 0) 46) 0] := holds_cons (by show _ ≠ _; rw [hb]; exact hc) holds_nil
    have h := retV hh tabNil rfl rfl (f := 17) (args := [.sx .i64 (.a 0), (.v (.int .i64 (.ofNat 47)))]) (v := .sb (.eq (.shr (.a 0) 46) (.c (-1)))) (by kernel_rfl) (by kernel_rfl) (by kernel_rfl)
    have e : (sgnF n 47 == n) = (n.fdiv (2 ^ 46) == -1) := by
      rw [Bool.eq_iff_iff, beq_iff_eq, beq_iff_eq, p, fdivP]
      simp only [Nat.reduceSub] at *
      omega
    rw [e]
    exact h

theorem rft47 (n : Int) (hn : In n) {b : Bool} (h : (sgnF n 47 == n) = b) : TabOK Try.prog (fun _ => n) sl0 [(17, [.sx .i64 (.a 0), (.v (.int .i64 (.ofNat 47)))], .v (.bool b))] := by
  intro x hx
  simp only [List.mem_cons, List.not_mem_nil, or_false] at hx
  subst hx
  subst h
  exact rfits47 n hn

theorem rwide47 (n : Int) (hn : In n) : Ret Try.prog 19 [.int .i64 n, .int .i64 (47 : Nat)] (.bool (sgnF n 47 == n || lowF n 47 == n)) := by
  cases hf : (sgnF n 47 == n) with
  | true =>
    have h := retV (val := fun _ => n) (F := []) holds_nil (rft47 n hn hf) (by kernel_rfl) (by kernel_rfl) (f := 19) (args := [.sx .i64 (.a 0), (.v (.int .i64 (.ofNat 47)))]) (v := .v (.bool true)) (by kernel_rfl) (by kernel_rfl) (by kernel_rfl)
    exact h
  | false =>
    have p := (pl47 n hn).fit
    rw [beq_eq_false_iff_ne] at hf
    obtain ⟨h1, h2⟩ := id hn
    have pl := (pl47 n hn).low
    by_cases hc : 1 ≤ n
    · have hh : Holds (fun _ => n) [.ge (.a 0) 1] := holds_cons hc holds_nil
      have h := retV hh (rft47 n hn (beq_eq_false_iff_ne.2 hf)) (by kernel_rfl) (by kernel_rfl) (f := 19) (args := [.sx .i64 (.a 0), (.v (.int .i64 (.ofNat 47)))]) (v := .sb (.eq (.shr (.a 0) 47) (.c 0))) (by kernel_rfl) (by kernel_rfl) (by kernel_rfl)
      have e : (false || lowF n 47 == n) = (n.fdiv (2 ^ 47) == 0) := by
        rw [Bool.false_or, Bool.eq_iff_iff, beq_iff_eq, beq_iff_eq, pl, fdivP]
        omega
      rw [e]
      exact h
    · have hh : Holds (fun _ => n) [.le (.a 0) 0] := holds_cons (show n ≤ 0 by omega) holds_nil
      have h := retV hh (rft47 n hn (beq_eq_false_iff_ne.2 hf)) (by kernel_rfl) (by kernel_rfl) (f := 19) (args := [.sx .i64 (.a 0), (.v (.int .i64 (.ofNat 47)))]) (v := .v (.bool false)) (by kernel_rfl) (by kernel_rfl) (by kernel_rfl)
      have e : (false || lowF n 47 == n) = false := by
        rw [Bool.false_or, beq_eq_false_iff_ne]
        intro hl
        rw [pl] at hl
        simp only [Nat.reduceSub] at *
        apply hf
        rw [p]
        omega
      rw [e]
      exact h

theorem rlow48 (n : Int) (hn : In n) : Ret Try.prog 23 [.int .i64 n, .int .i64 (48 : Nat)] (.int .i64 (lowF n 48)) := by
  have h := retV (val := fun _ => n) (F := []) holds_nil tabNil rfl rfl (f := 23) (args := [.sx .i64 (.a 0), (.v (.int .i64 (.ofNat 48)))]) (v := .sx .i64 (chain 48)) (by kernel_rfl) (by kernel_rfl) (by kernel_rfl)
  simp only [concs, conc, chain_eval _ 48 (by omega)] at h
  have e : IntKind.i64.wrap (n % 2 ^ 48) = lowF n 48 := by
    obtain ⟨h1, h2⟩ := hn
    simp only [wrapI, lowF]
    omega
  rw [← e]
  exact h

theorem rlt48 (n : Int) (hn : In n) : TabOK Try.prog (fun j => [n, lowF n 48].getD j 0) sl0 [(23, [.sx .i64 (.a 0), (.v (.int .i64 (.ofNat 48)))], .sx .i64 (.a 1))] := by
  intro x hx
  simp only [List.mem_cons, List.not_mem_nil, or_false] at hx
  subst hx
  exact rlow48 n hn

theorem rsign48 (n : Int) (hn : In n) : Ret Try.prog 21 [.int .i64 n, .int .i64 (48 : Nat)] (.int .i64 (sgnF n 48)) := by
  have hb : (SX.eval (fun j => [n, lowF n 48].getD j 0) (.and .i64 (.shr (.a 1) 47) (.c 1))) = lowF n 48 / 2 ^ 47 % 2 := by
    show IntKind.i64.wrap (BitVec.ofInt IntKind.i64.bits ((lowF n 48).fdiv (2 ^ 47)) &&& BitVec.ofInt IntKind.i64.bits 1).toNat = _
    rw [andOne, fdivP]
  obtain ⟨h1, h2⟩ := id hn
  by_cases hc : lowF n 48 / 2 ^ 47 % 2 = 1
  · have hh : Holds (fun j => [n, lowF n 48].getD j 0) [.is (.and .i64 (.shr (.a 1) 47) (.c 1)) 1] := holds_cons (hb.trans hc) holds_nil
    have h := retV hh (rlt48 n hn) (by kernel_rfl) (by kernel_rfl) (f := 21) (args := [.sx .i64 (.a 0), (.v (.int .i64 (.ofNat 48)))]) (v := .sx .i64 (.wrap .i64 (.sub (.a 1) (.c 281474976710656)))) (by kernel_rfl) (by kernel_rfl) (by kernel_rfl)
    have e : IntKind.i64.wrap (lowF n 48 - 281474976710656) = sgnF n 48 := by
      simp only [wrapI, lowF, sgnF] at hc ⊢
      omega
    rw [← e]
    exact h
  · have hh : Holds (fun j => [n, lowF n 48].getD j 0) [.ne (.and .i64 (.shr (.a 1) 47) (.c 1)) 1] := holds_cons (by show _ ≠ _; rw [hb]; exact hc) holds_nil
    have h := retV hh (rlt48 n hn) (by kernel_rfl) (by kernel_rfl) (f := 21) (args := [.sx .i64 (.a 0), (.v (.int .i64 (.ofNat 48)))]) (v := .sx .i64 (.a 1)) (by kernel_rfl) (by kernel_rfl) (by kernel_rfl)
    have e : lowF n 48 = sgnF n 48 := by
      simp only [lowF, sgnF] at hc ⊢
      omega
    rw [← e]
    exact h

theorem rfits48 (n : Int) (hn : In n) : Ret Try.prog 17 [.int .i64 n, .int .i64 (48 : Nat)] (.bool (sgnF n 48 == n)) := by
  have hb : (SX.eval (fun _ => n) (.shr (.a 0) 47)) = n / 2 ^ 47 := by show n.fdiv (2 ^ 47) = _; rw [fdivP]
  have p := (pl48 n hn).fit
  obtain ⟨h1, h2⟩ := id hn
  by_cases hc : n / 2 ^ 47 = 0
  · have hh : Holds (fun _ => n) [.is (.shr (.a 0) 47) 0] := holds_cons (hb.trans hc) holds_nil
    have h := retV hh tabNil rfl rfl (f := 17) (args := [.sx .i64 (.a 0), (.v (.int .i64 (.ofNat 48)))]) (v := .v (.bool true)) (by kernel_rfl) (by kernel_rfl) (by kernel_rfl)
    have e : (sgnF n 48 == n) = true := by
      rw [beq_iff_eq, p]
      simp only [Nat.reduceSub] at *
      omega
    rw [e]
    exact h
  · have hh : Holds (fun _ => n) [.ne (.shr (.a 0) 47) 0] := holds_cons (by show _ ≠ _; rw [hb]; exact hc) holds_nil
    have h := retV hh tabNil rfl rfl (f := 17) (args := [.sx .i64 (.a 0), (.v (.int .i64 (.ofNat 48)))]) (v := .sb (.eq (.shr (.a 0) 47) (.c (-1)))) (by kernel_rfl) (by kernel_rfl) (by kernel_rfl)
    have e : (sgnF n 48 == n) = (n.fdiv (2 ^ 47) == -1) := by
      rw [Bool.eq_iff_iff, beq_iff_eq, beq_iff_eq, p, fdivP]
      simp only [Nat.reduceSub] at *
      omega
    rw [e]
    exact h

theorem rft48 (n : Int) (hn : In n) {b : Bool} (h : (sgnF n 48 == n) = b) : TabOK Try.prog (fun _ => n) sl0 [(17, [.sx .i64 (.a 0), (.v (.int .i64 (.ofNat 48)))], .v (.bool b))] := by
  intro x hx
  simp only [List.mem_cons, List.not_mem_nil, or_false] at hx
  subst hx
  subst h
  exact rfits48 n hn

theorem rwide48 (n : Int) (hn : In n) : Ret Try.prog 19 [.int .i64 n, .int .i64 (48 : Nat)] (.bool (sgnF n 48 == n || lowF n 48 == n)) := by
  cases hf : (sgnF n 48 == n) with
  | true =>
    have h := retV (val := fun _ => n) (F := []) holds_nil (rft48 n hn hf) (by kernel_rfl) (by kernel_rfl) (f := 19) (args := [.sx .i64 (.a 0), (.v (.int .i64 (.ofNat 48)))]) (v := .v (.bool true)) (by kernel_rfl) (by kernel_rfl) (by kernel_rfl)
    exact h
  | false =>
    have p := (pl48 n hn).fit
    rw [beq_eq_false_iff_ne] at hf
    obtain ⟨h1, h2⟩ := id hn
    have pl := (pl48 n hn).low
    by_cases hc : 1 ≤ n
    · have hh : Holds (fun _ => n) [.ge (.a 0) 1] := holds_cons hc holds_nil
      have h := retV hh (rft48 n hn (beq_eq_false_iff_ne.2 hf)) (by kernel_rfl) (by kernel_rfl) (f := 19) (args := [.sx .i64 (.a 0), (.v (.int .i64 (.ofNat 48)))]) (v := .sb (.eq (.shr (.a 0) 48) (.c 0))) (by kernel_rfl) (by kernel_rfl) (by kernel_rfl)
      have e : (false || lowF n 48 == n) = (n.fdiv (2 ^ 48) == 0) := by
        rw [Bool.false_or, Bool.eq_iff_iff, beq_iff_eq, beq_iff_eq, pl, fdivP]
        omega
      rw [e]
      exact h
    · have hh : Holds (fun _ => n) [.le (.a 0) 0] := holds_cons (show n ≤ 0 by omega) holds_nil
      have h := retV hh (rft48 n hn (beq_eq_false_iff_ne.2 hf)) (by kernel_rfl) (by kernel_rfl) (f := 19) (args := [.sx .i64 (.a 0), (.v (.int .i64 (.ofNat 48)))]) (v := .v (.bool false)) (by kernel_rfl) (by kernel_rfl) (by kernel_rfl)
      have e : (false || lowF n 48 == n) = false := by
        rw [Bool.false_or, beq_eq_false_iff_ne]
        intro hl
        rw [pl] at hl
        simp only [Nat.reduceSub] at *
        apply hf
        rw [p]
        omega
      rw [e]
      exact h

end Go.Proofs.Ytclgmeoofmidfaa.Fld
