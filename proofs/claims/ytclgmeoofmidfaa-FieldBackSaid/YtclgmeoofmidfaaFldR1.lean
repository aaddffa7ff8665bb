/-
  What the document's Low, Sign, Fits and Wide do, by widths.
-/
import Derived.Test.YtclgmeoofmidfaaFldQ
import Derived.Test.YtclgmeoofmidfaaFldP
namespace Go.Proofs.Ytclgmeoofmidfaa.Fld
open Go.Sim
set_option maxRecDepth 100000

theorem rlow1 (n : Int) (hn : In n) : Ret Try.prog 23 [.int .i64 n, .int .i64 (1 : Nat)] (.int .i64 (lowF n 1)) := by
  have h := retV (val := fun _ => n) (F := []) holds_nil tabNil rfl rfl (f := 23) (args := [.sx .i64 (.a 0), (.v (.int .i64 (.ofNat 1)))]) (v := .sx .i64 (chain 1)) (by kernel_rfl) (by kernel_rfl) (by kernel_rfl)
  simp only [concs, conc, chain_eval _ 1 (by omega)] at h
  have e : IntKind.i64.wrap (n % 2 ^ 1) = lowF n 1 := by
    obtain ⟨h1, h2⟩ := hn
    simp only [wrapI, lowF]
    omega
  rw [← e]
  exact h

theorem rlt1 (n : Int) (hn : In n) : TabOK Try.prog (fun j => [n, lowF n 1].getD j 0) sl0 [(23, [.sx .i64 (.a 0), (.v (.int .i64 (.ofNat 1)))], .sx .i64 (.a 1))] := by
  intro x hx
  simp only [List.mem_cons, List.not_mem_nil, or_false] at hx
  subst hx
  exact rlow1 n hn

theorem rsign1 (n : Int) (hn : In n) : Ret Try.prog 21 [.int .i64 n, .int .i64 (1 : Nat)] (.int .i64 (sgnF n 1)) := by
  have hb : (SX.eval (fun j => [n, lowF n 1].getD j 0) (.and .i64 (.shr (.a 1) 0) (.c 1))) = lowF n 1 / 2 ^ 0 % 2 := by
    show IntKind.i64.wrap (BitVec.ofInt IntKind.i64.bits ((lowF n 1).fdiv (2 ^ 0)) &&& BitVec.ofInt IntKind.i64.bits 1).toNat = _
    rw [andOne, fdivP]
  obtain ⟨h1, h2⟩ := id hn
  by_cases hc : lowF n 1 / 2 ^ 0 % 2 = 1
  · have hh : Holds (fun j => [n, lowF n 1].getD j 0) [.is (.and .i64 (.shr (.a 1) 0) (.c 1)) 1] := holds_cons (hb.trans hc) holds_nil
    have h := retV hh (rlt1 n hn) (by kernel_rfl) (by kernel_rfl) (f := 21) (args := [.sx .i64 (.a 0), (.v (.int .i64 (.ofNat 1)))]) (v := .sx .i64 (.wrap .i64 (.sub (.a 1) (.c 2)))) (by kernel_rfl) (by kernel_rfl) (by kernel_rfl)
    have e : IntKind.i64.wrap (lowF n 1 - 2) = sgnF n 1 := by
      simp only [wrapI, lowF, sgnF] at hc ⊢
      omega
    rw [← e]
    exact h
  · have hh : Holds (fun j => [n, lowF n 1].getD j 0) [.ne (.and .i64 (.shr (.a 1) 0) (.c 1)) 1] := holds_cons (by show _ ≠ _; rw [hb]; exact hc) holds_nil
    have h := retV hh (rlt1 n hn) (by kernel_rfl) (by kernel_rfl) (f := 21) (args := [.sx .i64 (.a 0), (.v (.int .i64 (.ofNat 1)))]) (v := .sx .i64 (.a 1)) (by kernel_rfl) (by kernel_rfl) (by kernel_rfl)
    have e : lowF n 1 = sgnF n 1 := by
      simp only [lowF, sgnF] at hc ⊢
      omega
    rw [← e]
    exact h

theorem rfits1 (n : Int) (hn : In n) : Ret Try.prog 17 [.int .i64 n, .int .i64 (1 : Nat)] (.bool (sgnF n 1 == n)) := by
  have hb : (SX.eval (fun _ => n) (.shr (.a 0) 0)) = n / 2 ^ 0 := by show n.fdiv (2 ^ 0) = _; rw [fdivP]
  have p := (pl1 n hn).fit
  obtain ⟨h1, h2⟩ := id hn
  by_cases hc : n / 2 ^ 0 = 0
  · have hh : Holds (fun _ => n) [.is (.shr (.a 0) 0) 0] := holds_cons (hb.trans hc) holds_nil
    have h := retV hh tabNil rfl rfl (f := 17) (args := [.sx .i64 (.a 0), (.v (.int .i64 (.ofNat 1)))]) (v := .v (.bool true)) (by kernel_rfl) (by kernel_rfl) (by kernel_rfl)
    have e : (sgnF n 1 == n) = true := by
      rw [beq_iff_eq, p]
      simp only [Nat.reduceSub] at *
      omega
    rw [e]
    exact h
  · have hh : Holds (fun _ => n) [.ne (.shr (.a 0) 0) 0] := holds_cons (by show _ ≠ _; rw [hb]; exact hc) holds_nil
    have h := retV hh tabNil rfl rfl (f := 17) (args := [.sx .i64 (.a 0), (.v (.int .i64 (.ofNat 1)))]) (v := .sb (.eq (.shr (.a 0) 0) (.c (-1)))) (by kernel_rfl) (by kernel_rfl) (by kernel_rfl)
    have e : (sgnF n 1 == n) = (n.fdiv (2 ^ 0) == -1) := by
      rw [Bool.eq_iff_iff, beq_iff_eq, beq_iff_eq, p, fdivP]
      simp only [Nat.reduceSub] at *
      omega
    rw [e]
    exact h

theorem rft1 (n : Int) (hn : In n) {b : Bool} (h : (sgnF n 1 == n) = b) : TabOK Try.prog (fun _ => n) sl0 [(17, [.sx .i64 (.a 0), (.v (.int .i64 (.ofNat 1)))], .v (.bool b))] := by
  intro x hx
  simp only [List.mem_cons, List.not_mem_nil, or_false] at hx
  subst hx
  subst h
  exact rfits1 n hn

theorem rwide1 (n : Int) (hn : In n) : Ret Try.prog 19 [.int .i64 n, .int .i64 (1 : Nat)] (.bool (sgnF n 1 == n || lowF n 1 == n)) := by
  cases hf : (sgnF n 1 == n) with
  | true =>
    have h := retV (val := fun _ => n) (F := []) holds_nil (rft1 n hn hf) (by kernel_rfl) (by kernel_rfl) (f := 19) (args := [.sx .i64 (.a 0), (.v (.int .i64 (.ofNat 1)))]) (v := .v (.bool true)) (by kernel_rfl) (by kernel_rfl) (by kernel_rfl)
    exact h
  | false =>
    have p := (pl1 n hn).fit
    rw [beq_eq_false_iff_ne] at hf
    obtain ⟨h1, h2⟩ := id hn
    have pl := (pl1 n hn).low
    by_cases hc : 1 ≤ n
    · have hh : Holds (fun _ => n) [.ge (.a 0) 1] := holds_cons hc holds_nil
      have h := retV hh (rft1 n hn (beq_eq_false_iff_ne.2 hf)) (by kernel_rfl) (by kernel_rfl) (f := 19) (args := [.sx .i64 (.a 0), (.v (.int .i64 (.ofNat 1)))]) (v := .sb (.eq (.shr (.a 0) 1) (.c 0))) (by kernel_rfl) (by kernel_rfl) (by kernel_rfl)
      have e : (false || lowF n 1 == n) = (n.fdiv (2 ^ 1) == 0) := by
        rw [Bool.false_or, Bool.eq_iff_iff, beq_iff_eq, beq_iff_eq, pl, fdivP]
        omega
      rw [e]
      exact h
    · have hh : Holds (fun _ => n) [.le (.a 0) 0] := holds_cons (show n ≤ 0 by omega) holds_nil
      have h := retV hh (rft1 n hn (beq_eq_false_iff_ne.2 hf)) (by kernel_rfl) (by kernel_rfl) (f := 19) (args := [.sx .i64 (.a 0), (.v (.int .i64 (.ofNat 1)))]) (v := .v (.bool false)) (by kernel_rfl) (by kernel_rfl) (by kernel_rfl)
      have e : (false || lowF n 1 == n) = false := by
        rw [Bool.false_or, beq_eq_false_iff_ne]
        intro hl
        rw [pl] at hl
        simp only [Nat.reduceSub] at *
        apply hf
        rw [p]
        omega
      rw [e]
      exact h

theorem rlow2 (n : Int) (hn : In n) : Ret Try.prog 23 [.int .i64 n, .int .i64 (2 : Nat)] (.int .i64 (lowF n 2)) := by
  have h := retV (val := fun _ => n) (F := []) holds_nil tabNil rfl rfl (f := 23) (args := [.sx .i64 (.a 0), (.v (.int .i64 (.ofNat 2)))]) (v := .sx .i64 (chain 2)) (by kernel_rfl) (by kernel_rfl) (by kernel_rfl)
  simp only [concs, conc, chain_eval _ 2 (by omega)] at h
  have e : IntKind.i64.wrap (n % 2 ^ 2) = lowF n 2 := by
    obtain ⟨h1, h2⟩ := hn
    simp only [wrapI, lowF]
    omega
  rw [← e]
  exact h

theorem rlt2 (n : Int) (hn : In n) : TabOK Try.prog (fun j => [n, lowF n 2].getD j 0) sl0 [(23, [.sx .i64 (.a 0), (.v (.int .i64 (.ofNat 2)))], .sx .i64 (.a 1))] := by
  intro x hx
  simp only [List.mem_cons, List.not_mem_nil, or_false] at hx
  subst hx
  exact rlow2 n hn

theorem rsign2 (n : Int) (hn : In n) : Ret Try.prog 21 [.int .i64 n, .int .i64 (2 : Nat)] (.int .i64 (sgnF n 2)) := by
  have hb : (SX.eval (fun j => [n, lowF n 2].getD j 0) (.and .i64 (.shr (.a 1) 1) (.c 1))) = lowF n 2 / 2 ^ 1 % 2 := by
    show IntKind.i64.wrap (BitVec.ofInt IntKind.i64.bits ((lowF n 2).fdiv (2 ^ 1)) &&& BitVec.ofInt IntKind.i64.bits 1).toNat = _
    rw [andOne, fdivP]
  obtain ⟨h1, h2⟩ := id hn
  by_cases hc : lowF n 2 / 2 ^ 1 % 2 = 1
  · have hh : Holds (fun j => [n, lowF n 2].getD j 0) [.is (.and .i64 (.shr (.a 1) 1) (.c 1)) 1] := holds_cons (hb.trans hc) holds_nil
    have h := retV hh (rlt2 n hn) (by kernel_rfl) (by kernel_rfl) (f := 21) (args := [.sx .i64 (.a 0), (.v (.int .i64 (.ofNat 2)))]) (v := .sx .i64 (.wrap .i64 (.sub (.a 1) (.c 4)))) (by kernel_rfl) (by kernel_rfl) (by kernel_rfl)
    have e : IntKind.i64.wrap (lowF n 2 - 4) = sgnF n 2 := by
      simp only [wrapI, lowF, sgnF] at hc ⊢
      omega
    rw [← e]
    exact h
  · have hh : Holds (fun j => [n, lowF n 2].getD j 0) [.ne (.and .i64 (.shr (.a 1) 1) (.c 1)) 1] := holds_cons (by show _ ≠ _; rw [hb]; exact hc) holds_nil
    have h := retV hh (rlt2 n hn) (by kernel_rfl) (by kernel_rfl) (f := 21) (args := [.sx .i64 (.a 0), (.v (.int .i64 (.ofNat 2)))]) (v := .sx .i64 (.a 1)) (by kernel_rfl) (by kernel_rfl) (by kernel_rfl)
    have e : lowF n 2 = sgnF n 2 := by
      simp only [lowF, sgnF] at hc ⊢
      omega
    rw [← e]
    exact h

theorem rfits2 (n : Int) (hn : In n) : Ret Try.prog 17 [.int .i64 n, .int .i64 (2 : Nat)] (.bool (sgnF n 2 == n)) := by
  have hb : (SX.eval (fun _ => n) (.shr (.a 0) 1)) = n / 2 ^ 1 := by show n.fdiv (2 ^ 1) = _; rw [fdivP]
  have p := (pl2 n hn).fit
  obtain ⟨h1, h2⟩ := id hn
  by_cases hc : n / 2 ^ 1 = 0
  · have hh : Holds (fun _ => n) [.is (.shr (.a 0) 1) 0] := holds_cons (hb.trans hc) holds_nil
    have h := retV hh tabNil rfl rfl (f := 17) (args := [.sx .i64 (.a 0), (.v (.int .i64 (.ofNat 2)))]) (v := .v (.bool true)) (by kernel_rfl) (by kernel_rfl) (by kernel_rfl)
    have e : (sgnF n 2 == n) = true := by
      rw [beq_iff_eq, p]
      simp only [Nat.reduceSub] at *
      omega
    rw [e]
    exact h
  · have hh : Holds (fun _ => n) [.ne (.shr (.a 0) 1) 0] := holds_cons (by show _ ≠ _; rw [hb]; exact hc) holds_nil
    have h := retV hh tabNil rfl rfl (f := 17) (args := [.sx .i64 (.a 0), (.v (.int .i64 (.ofNat 2)))]) (v := .sb (.eq (.shr (.a 0) 1) (.c (-1)))) (by kernel_rfl) (by kernel_rfl) (by kernel_rfl)
    have e : (sgnF n 2 == n) = (n.fdiv (2 ^ 1) == -1) := by
      rw [Bool.eq_iff_iff, beq_iff_eq, beq_iff_eq, p, fdivP]
      simp only [Nat.reduceSub] at *
      omega
    rw [e]
    exact h

theorem rft2 (n : Int) (hn : In n) {b : Bool} (h : (sgnF n 2 == n) = b) : TabOK Try.prog (fun _ => n) sl0 [(17, [.sx .i64 (.a 0), (.v (.int .i64 (.ofNat 2)))], .v (.bool b))] := by
  intro x hx
  simp only [List.mem_cons, List.not_mem_nil, or_false] at hx
  subst hx
  subst h
  exact rfits2 n hn

theorem rwide2 (n : Int) (hn : In n) : Ret Try.prog 19 [.int .i64 n, .int .i64 (2 : Nat)] (.bool (sgnF n 2 == n || lowF n 2 == n)) := by
  cases hf : (sgnF n 2 == n) with
  | true =>
    have h := retV (val := fun _ => n) (F := []) holds_nil (rft2 n hn hf) (by kernel_rfl) (by kernel_rfl) (f := 19) (args := [.sx .i64 (.a 0), (.v (.int .i64 (.ofNat 2)))]) (v := .v (.bool true)) (by kernel_rfl) (by kernel_rfl) (by kernel_rfl)
    exact h
  | false =>
    have p := (pl2 n hn).fit
    rw [beq_eq_false_iff_ne] at hf
    obtain ⟨h1, h2⟩ := id hn
    have pl := (pl2 n hn).low
    by_cases hc : 1 ≤ n
    · have hh : Holds (fun _ => n) [.ge (.a 0) 1] := holds_cons hc holds_nil
      have h := retV hh (rft2 n hn (beq_eq_false_iff_ne.2 hf)) (by kernel_rfl) (by kernel_rfl) (f := 19) (args := [.sx .i64 (.a 0), (.v (.int .i64 (.ofNat 2)))]) (v := .sb (.eq (.shr (.a 0) 2) (.c 0))) (by kernel_rfl) (by kernel_rfl) (by kernel_rfl)
      have e : (false || lowF n 2 == n) = (n.fdiv (2 ^ 2) == 0) := by
        rw [Bool.false_or, Bool.eq_iff_iff, beq_iff_eq, beq_iff_eq, pl, fdivP]
        omega
      rw [e]
      exact h
    · have hh : Holds (fun _ => n) [.le (.a 0) 0] := holds_cons (show n ≤ 0 by omega) holds_nil
      have h := retV hh (rft2 n hn (beq_eq_false_iff_ne.2 hf)) (by kernel_rfl) (by kernel_rfl) (f := 19) (args := [.sx .i64 (.a 0), (.v (.int .i64 (.ofNat 2)))]) (v := .v (.bool false)) (by kernel_rfl) (by kernel_rfl) (by kernel_rfl)
      have e : (false || lowF n 2 == n) = false := by
        rw [Bool.false_or, beq_eq_false_iff_ne]
        intro hl
        rw [pl] at hl
        simp only [Nat.reduceSub] at *
        apply hf
        rw [p]
        omega
      rw [e]
      exact h

theorem rlow3 (n : Int) (hn : In n) : Ret Try.prog 23 [.int .i64 n, .int .i64 (3 : Nat)] (.int .i64 (lowF n 3)) := by
  have h := retV (val := fun _ => n) (F := []) holds_nil tabNil rfl rfl (f := 23) (args := [.sx .i64 (.a 0), (.v (.int .i64 (.ofNat 3)))]) (v := .sx .i64 (chain 3)) (by kernel_rfl) (by kernel_rfl) (by kernel_rfl)
  simp only [concs, conc, chain_eval _ 3 (by omega)] at h
  have e : IntKind.i64.wrap (n % 2 ^ 3) = lowF n 3 := by
    obtain ⟨h1, h2⟩ := hn
    simp only [wrapI, lowF]
    omega
  rw [← e]
  exact h

theorem rlt3 (n : Int) (hn : In n) : TabOK Try.prog (fun j => [n, lowF n 3].getD j 0) sl0 [(23, [.sx .i64 (.a 0), (.v (.int .i64 (.ofNat 3)))], .sx .i64 (.a 1))] := by
  intro x hx
  simp only [List.mem_cons, List.not_mem_nil, or_false] at hx
  subst hx
  exact rlow3 n hn

theorem rsign3 (n : Int) (hn : In n) : Ret Try.prog 21 [.int .i64 n, .int .i64 (3 : Nat)] (.int .i64 (sgnF n 3)) := by
  have hb : (SX.eval (fun j => [n, lowF n 3].getD j 0) (.and .i64 (.shr (.a 1) 2) (.c 1))) = lowF n 3 / 2 ^ 2 % 2 := by
    show IntKind.i64.wrap (BitVec.ofInt IntKind.i64.bits ((lowF n 3).fdiv (2 ^ 2)) &&& BitVec.ofInt IntKind.i64.bits 1).toNat = _
    rw [andOne, fdivP]
  obtain ⟨h1, h2⟩ := id hn
  by_cases hc : lowF n 3 / 2 ^ 2 % 2 = 1
  · have hh : Holds (fun j => [n, lowF n 3].getD j 0) [.is (.and .i64 (.shr (.a 1) 2) (.c 1)) 1] := holds_cons (hb.trans hc) holds_nil
    have h := retV hh (rlt3 n hn) (by kernel_rfl) (by kernel_rfl) (f := 21) (args := [.sx .i64 (.a 0), (.v (.int .i64 (.ofNat 3)))]) (v := .sx .i64 (.wrap .i64 (.sub (.a 1) (.c 8)))) (by kernel_rfl) (by kernel_rfl) (by kernel_rfl)
    have e : IntKind.i64.wrap (lowF n 3 - 8) = sgnF n 3 := by
      simp only [wrapI, lowF, sgnF] at hc ⊢
      omega
    rw [← e]
    exact h
  · have hh : Holds (fun j => [n, lowF n 3].getD j 0) [.ne (.and .i64 (.shr (.a 1) 2) (.c 1)) 1] := holds_cons (by show _ ≠ _; rw [hb]; exact hc) holds_nil
    have h := retV hh (rlt3 n hn) (by kernel_rfl) (by kernel_rfl) (f := 21) (args := [.sx .i64 (.a 0), (.v (.int .i64 (.ofNat 3)))]) (v := .sx .i64 (.a 1)) (by kernel_rfl) (by kernel_rfl) (by kernel_rfl)
    have e : lowF n 3 = sgnF n 3 := by
      simp only [lowF, sgnF] at hc ⊢
      omega
    rw [← e]
    exact h

theorem rfits3 (n : Int) (hn : In n) : Ret Try.prog 17 [.int .i64 n, .int .i64 (3 : Nat)] (.bool (sgnF n 3 == n)) := by
  have hb : (SX.eval (fun _ => n) (.shr (.a 0) 2)) = n / 2 ^ 2 := by show n.fdiv (2 ^ 2) = _; rw [fdivP]
  have p := (pl3 n hn).fit
  obtain ⟨h1, h2⟩ := id hn
  by_cases hc : n / 2 ^ 2 = 0
  · have hh : Holds (fun _ => n) [.is (.shr (.a 0) 2) 0] := holds_cons (hb.trans hc) holds_nil
    have h := retV hh tabNil rfl rfl (f := 17) (args := [.sx .i64 (.a 0), (.v (.int .i64 (.ofNat 3)))]) (v := .v (.bool true)) (by kernel_rfl) (by kernel_rfl) (by kernel_rfl)
    have e : (sgnF n 3 == n) = true := by
      rw [beq_iff_eq, p]
      simp only [Nat.reduceSub] at *
      omega
    rw [e]
    exact h
  · have hh : Holds (fun _ => n) [.ne (.shr (.a 0) 2) 0] := holds_cons (by show _ ≠ _; rw [hb]; exact hc) holds_nil
    have h := retV hh tabNil rfl rfl (f := 17) (args := [.sx .i64 (.a 0), (.v (.int .i64 (.ofNat 3)))]) (v := .sb (.eq (.shr (.a 0) 2) (.c (-1)))) (by kernel_rfl) (by kernel_rfl) (by kernel_rfl)
    have e : (sgnF n 3 == n) = (n.fdiv (2 ^ 2) == -1) := by
      rw [Bool.eq_iff_iff, beq_iff_eq, beq_iff_eq, p, fdivP]
      simp only [Nat.reduceSub] at *
      omega
    rw [e]
    exact h

theorem rft3 (n : Int) (hn : In n) {b : Bool} (h : (sgnF n 3 == n) = b) : TabOK Try.prog (fun _ => n) sl0 [(17, [.sx .i64 (.a 0), (.v (.int .i64 (.ofNat 3)))], .v (.bool b))] := by
  intro x hx
  simp only [List.mem_cons, List.not_mem_nil, or_false] at hx
  subst hx
  subst h
  exact rfits3 n hn

theorem rwide3 (n : Int) (hn : In n) : Ret Try.prog 19 [.int .i64 n, .int .i64 (3 : Nat)] (.bool (sgnF n 3 == n || lowF n 3 == n)) := by
  cases hf : (sgnF n 3 == n) with
  | true =>
    have h := retV (val := fun _ => n) (F := []) holds_nil (rft3 n hn hf) (by kernel_rfl) (by kernel_rfl) (f := 19) (args := [.sx .i64 (.a 0), (.v (.int .i64 (.ofNat 3)))]) (v := .v (.bool true)) (by kernel_rfl) (by kernel_rfl) (by kernel_rfl)
    exact h
  | false =>
    have p := (pl3 n hn).fit
    rw [beq_eq_false_iff_ne] at hf
    obtain ⟨h1, h2⟩ := id hn
    have pl := (pl3 n hn).low
    by_cases hc : 1 ≤ n
    · have hh : Holds (fun _ => n) [.ge (.a 0) 1] := holds_cons hc holds_nil
      have h := retV hh (rft3 n hn (beq_eq_false_iff_ne.2 hf)) (by kernel_rfl) (by kernel_rfl) (f := 19) (args := [.sx .i64 (.a 0), (.v (.int .i64 (.ofNat 3)))]) (v := .sb (.eq (.shr (.a 0) 3) (.c 0))) (by kernel_rfl) (by kernel_rfl) (by kernel_rfl)
      have e : (false || lowF n 3 == n) = (n.fdiv (2 ^ 3) == 0) := by
        rw [Bool.false_or, Bool.eq_iff_iff, beq_iff_eq, beq_iff_eq, pl, fdivP]
        omega
      rw [e]
      exact h
    · have hh : Holds (fun _ => n) [.le (.a 0) 0] := holds_cons (show n ≤ 0 by omega) holds_nil
      have h := retV hh (rft3 n hn (beq_eq_false_iff_ne.2 hf)) (by kernel_rfl) (by kernel_rfl) (f := 19) (args := [.sx .i64 (.a 0), (.v (.int .i64 (.ofNat 3)))]) (v := .v (.bool false)) (by kernel_rfl) (by kernel_rfl) (by kernel_rfl)
      have e : (false || lowF n 3 == n) = false := by
        rw [Bool.false_or, beq_eq_false_iff_ne]
        intro hl
        rw [pl] at hl
        simp only [Nat.reduceSub] at *
        apply hf
        rw [p]
        omega
      rw [e]
      exact h

theorem rlow4 (n : Int) (hn : In n) : Ret Try.prog 23 [.int .i64 n, .int .i64 (4 : Nat)] (.int .i64 (lowF n 4)) := by
  have h := retV (val := fun _ => n) (F := []) holds_nil tabNil rfl rfl (f := 23) (args := [.sx .i64 (.a 0), (.v (.int .i64 (.ofNat 4)))]) (v := .sx .i64 (chain 4)) (by kernel_rfl) (by kernel_rfl) (by kernel_rfl)
  simp only [concs, conc, chain_eval _ 4 (by omega)] at h
  have e : IntKind.i64.wrap (n % 2 ^ 4) = lowF n 4 := by
    obtain ⟨h1, h2⟩ := hn
    simp only [wrapI, lowF]
    omega
  rw [← e]
  exact h

theorem rlt4 (n : Int) (hn : In n) : TabOK Try.prog (fun j => [n, lowF n 4].getD j 0) sl0 [(23, [.sx .i64 (.a 0), (.v (.int .i64 (.ofNat 4)))], .sx .i64 (.a 1))] := by
  intro x hx
  simp only [List.mem_cons, List.not_mem_nil, or_false] at hx
  subst hx
  exact rlow4 n hn

theorem rsign4 (n : Int) (hn : In n) : Ret Try.prog 21 [.int .i64 n, .int .i64 (4 : Nat)] (.int .i64 (sgnF n 4)) := by
  have hb : (SX.eval (fun j => [n, lowF n 4].getD j 0) (.and .i64 (.shr (.a 1) 3) (.c 1))) = lowF n 4 / 2 ^ 3 % 2 := by
    show IntKind.i64.wrap (BitVec.ofInt IntKind.i64.bits ((lowF n 4).fdiv (2 ^ 3)) &&& BitVec.ofInt IntKind.i64.bits 1).toNat = _
    rw [andOne, fdivP]
  obtain ⟨h1, h2⟩ := id hn
  by_cases hc : lowF n 4 / 2 ^ 3 % 2 = 1
  · have hh : Holds (fun j => [n, lowF n 4].getD j 0) [.is (.and .i64 (.shr (.a 1) 3) (.c 1)) 1] := holds_cons (hb.trans hc) holds_nil
    have h := retV hh (rlt4 n hn) (by kernel_rfl) (by kernel_rfl) (f := 21) (args := [.sx .i64 (.a 0), (.v (.int .i64 (.ofNat 4)))]) (v := .sx .i64 (.wrap .i64 (.sub (.a 1) (.c 16)))) (by kernel_rfl) (by kernel_rfl) (by kernel_rfl)
    have e : IntKind.i64.wrap (lowF n 4 - 16) = sgnF n 4 := by
      simp only [wrapI, lowF, sgnF] at hc ⊢
      omega
    rw [← e]
    exact h
  · have hh : Holds (fun j => [n, lowF n 4].getD j 0) [.ne (.and .i64 (.shr (.a 1) 3) (.c 1)) 1] := holds_cons (by show _ ≠ _; rw [hb]; exact hc) holds_nil
    have h := retV hh (rlt4 n hn) (by kernel_rfl) (by kernel_rfl) (f := 21) (args := [.sx .i64 (.a 0), (.v (.int .i64 (.ofNat 4)))]) (v := .sx .i64 (.a 1)) (by kernel_rfl) (by kernel_rfl) (by kernel_rfl)
    have e : lowF n 4 = sgnF n 4 := by
      simp only [lowF, sgnF] at hc ⊢
      omega
    rw [← e]
    exact h

theorem rfits4 (n : Int) (hn : In n) : Ret Try.prog 17 [.int .i64 n, .int .i64 (4 : Nat)] (.bool (sgnF n 4 == n)) := by
  have hb : (SX.eval (fun _ => n) (.shr (.a 0) 3)) = n / 2 ^ 3 := by show n.fdiv (2 ^ 3) = _; rw [fdivP]
  have p := (pl4 n hn).fit
  obtain ⟨h1, h2⟩ := id hn
  by_cases hc : n / 2 ^ 3 = 0
  · have hh : Holds (fun _ => n) [.is (.shr (.a 0) 3) 0] := holds_cons (hb.trans hc) holds_nil
    have h := retV hh tabNil rfl rfl (f := 17) (args := [.sx .i64 (.a 0), (.v (.int .i64 (.ofNat 4)))]) (v := .v (.bool true)) (by kernel_rfl) (by kernel_rfl) (by kernel_rfl)
    have e : (sgnF n 4 == n) = true := by
      rw [beq_iff_eq, p]
      simp only [Nat.reduceSub] at *
      omega
    rw [e]
    exact h
  · have hh : Holds (fun _ => n) [.ne (.shr (.a 0) 3) 0] := holds_cons (by show _ ≠ _; rw [hb]; exact hc) holds_nil
    have h := retV hh tabNil rfl rfl (f := 17) (args := [.sx .i64 (.a 0), (.v (.int .i64 (.ofNat 4)))]) (v := .sb (.eq (.shr (.a 0) 3) (.c (-1)))) (by kernel_rfl) (by kernel_rfl) (by kernel_rfl)
    have e : (sgnF n 4 == n) = (n.fdiv (2 ^ 3) == -1) := by
      rw [Bool.eq_iff_iff, beq_iff_eq, beq_iff_eq, p, fdivP]
      simp only [Nat.reduceSub] at *
      omega
    rw [e]
    exact h

theorem rft4 (n : Int) (hn : In n) {b : Bool} (h : (sgnF n 4 == n) = b) : TabOK Try.prog (fun _ => n) sl0 [(17, [.sx .i64 (.a 0), (.v (.int .i64 (.ofNat 4)))], .v (.bool b))] := by
  intro x hx
  simp only [List.mem_cons, List.not_mem_nil, or_false] at hx
  subst hx
  subst h
  exact rfits4 n hn

theorem rwide4 (n : Int) (hn : In n) : Ret Try.prog 19 [.int .i64 n, .int .i64 (4 : Nat)] (.bool (sgnF n 4 == n || lowF n 4 == n)) := by
  cases hf : (sgnF n 4 == n) with
  | true =>
    have h := retV (val := fun _ => n) (F := []) holds_nil (rft4 n hn hf) (by kernel_rfl) (by kernel_rfl) (f := 19) (args := [.sx .i64 (.a 0), (.v (.int .i64 (.ofNat 4)))]) (v := .v (.bool true)) (by kernel_rfl) (by kernel_rfl) (by kernel_rfl)
    exact h
  | false =>
    have p := (pl4 n hn).fit
    rw [beq_eq_false_iff_ne] at hf
    obtain ⟨h1, h2⟩ := id hn
    have pl := (pl4 n hn).low
    by_cases hc : 1 ≤ n
    · have hh : Holds (fun _ => n) [.ge (.a 0) 1] := holds_cons hc holds_nil
      have h := retV hh (rft4 n hn (beq_eq_false_iff_ne.2 hf)) (by kernel_rfl) (by kernel_rfl) (f := 19) (args := [.sx .i64 (.a 0), (.v (.int .i64 (.ofNat 4)))]) (v := .sb (.eq (.shr (.a 0) 4) (.c 0))) (by kernel_rfl) (by kernel_rfl) (by kernel_rfl)
      have e : (false || lowF n 4 == n) = (n.fdiv (2 ^ 4) == 0) := by
        rw [Bool.false_or, Bool.eq_iff_iff, beq_iff_eq, beq_iff_eq, pl, fdivP]
        omega
      rw [e]
      exact h
    · have hh : Holds (fun _ => n) [.le (.a 0) 0] := holds_cons (show n ≤ 0 by omega) holds_nil
      have h := retV hh (rft4 n hn (beq_eq_false_iff_ne.2 hf)) (by kernel_rfl) (by kernel_rfl) (f := 19) (args := [.sx .i64 (.a 0), (.v (.int .i64 (.ofNat 4)))]) (v := .v (.bool false)) (by kernel_rfl) (by kernel_rfl) (by kernel_rfl)
      have e : (false || lowF n 4 == n) = false := by
        rw [Bool.false_or, beq_eq_false_iff_ne]
        intro hl
        rw [pl] at hl
        simp only [Nat.reduceSub] at *
        apply hf
        rw [p]
        omega
      rw [e]
      exact h

theorem rlow5 (n : Int) (hn : In n) : Ret Try.prog 23 [.int .i64 n, .int .i64 (5 : Nat)] (.int .i64 (lowF n 5)) := by
  have h := retV (val := fun _ => n) (F := []) holds_nil tabNil rfl rfl (f := 23) (args := [.sx .i64 (.a 0), (.v (.int .i64 (.ofNat 5)))]) (v := .sx .i64 (chain 5)) (by kernel_rfl) (by kernel_rfl) (by kernel_rfl)
  simp only [concs, conc, chain_eval _ 5 (by omega)] at h
  have e : IntKind.i64.wrap (n % 2 ^ 5) = lowF n 5 := by
    obtain ⟨h1, h2⟩ := hn
    simp only [wrapI, lowF]
    omega
  rw [← e]
  exact h

theorem rlt5 (n : Int) (hn : In n) : TabOK Try.prog (fun j => [n, lowF n 5].getD j 0) sl0 [(23, [.sx .i64 (.a 0), (.v (.int .i64 (.ofNat 5)))], .sx .i64 (.a 1))] := by
  intro x hx
  simp only [List.mem_cons, List.not_mem_nil, or_false] at hx
  subst hx
  exact rlow5 n hn

theorem rsign5 (n : Int) (hn : In n) : Ret Try.prog 21 [.int .i64 n, .int .i64 (5 : Nat)] (.int .i64 (sgnF n 5)) := by
  have hb : (SX.eval (fun j => [n, lowF n 5].getD j 0) (.and .i64 (.shr (.a 1) 4) (.c 1))) = lowF n 5 / 2 ^ 4 % 2 := by
    show IntKind.i64.wrap (BitVec.ofInt IntKind.i64.bits ((lowF n 5).fdiv (2 ^ 4)) &&& BitVec.ofInt IntKind.i64.bits 1).toNat = _
    rw [andOne, fdivP]
  obtain ⟨h1, h2⟩ := id hn
  by_cases hc : lowF n 5 / 2 ^ 4 % 2 = 1
  · have hh : Holds (fun j => [n, lowF n 5].getD j 0) [.is (.and .i64 (.shr (.a 1) 4) (.c 1)) 1] := holds_cons (hb.trans hc) holds_nil
    have h := retV hh (rlt5 n hn) (by kernel_rfl) (by kernel_rfl) (f := 21) (args := [.sx .i64 (.a 0), (.v (.int .i64 (.ofNat 5)))]) (v := .sx .i64 (.wrap .i64 (.sub (.a 1) (.c 32)))) (by kernel_rfl) (by kernel_rfl) (by kernel_rfl)
    have e : IntKind.i64.wrap (lowF n 5 - 32) = sgnF n 5 := by
      simp only [wrapI, lowF, sgnF] at hc ⊢
      omega
    rw [← e]
    exact h
  · have hh : Holds (fun j => [n, lowF n 5].getD j 0) [.ne (.and .i64 (.shr (.a 1) 4) (.c 1)) 1] := holds_cons (by show _ ≠ _; rw [hb]; exact hc) holds_nil
    have h := retV hh (rlt5 n hn) (by kernel_rfl) (by kernel_rfl) (f := 21) (args := [.sx .i64 (.a 0), (.v (.int .i64 (.ofNat 5)))]) (v := .sx .i64 (.a 1)) (by kernel_rfl) (by kernel_rfl) (by kernel_rfl)
    have e : lowF n 5 = sgnF n 5 := by
      simp only [lowF, sgnF] at hc ⊢
      omega
    rw [← e]
    exact h

theorem rfits5 (n : Int) (hn : In n) : Ret Try.prog 17 [.int .i64 n, .int .i64 (5 : Nat)] (.bool (sgnF n 5 == n)) := by
  have hb : (SX.eval (fun _ => n) (.shr (.a 0) 4)) = n / 2 ^ 4 := by show n.fdiv (2 ^ 4) = _; rw [fdivP]
  have p := (pl5 n hn).fit
  obtain ⟨h1, h2⟩ := id hn
  by_cases hc : n / 2 ^ 4 = 0
  · have hh : Holds (fun _ => n) [.is (.shr (.a 0) 4) 0] := holds_cons (hb.trans hc) holds_nil
    have h := retV hh tabNil rfl rfl (f := 17) (args := [.sx .i64 (.a 0), (.v (.int .i64 (.ofNat 5)))]) (v := .v (.bool true)) (by kernel_rfl) (by kernel_rfl) (by kernel_rfl)
    have e : (sgnF n 5 == n) = true := by
      rw [beq_iff_eq, p]
      simp only [Nat.reduceSub] at *
      omega
    rw [e]
    exact h
  · have hh : Holds (fun _ => n) [.ne (.shr (.a 0) 4) 0] := holds_cons (by show _ ≠ _; rw [hb]; exact hc) holds_nil
    have h := retV hh tabNil rfl rfl (f := 17) (args := [.sx .i64 (.a 0), (.v (.int .i64 (.ofNat 5)))]) (v := .sb (.eq (.shr (.a 0) 4) (.c (-1)))) (by kernel_rfl) (by kernel_rfl) (by kernel_rfl)
    have e : (sgnF n 5 == n) = (n.fdiv (2 ^ 4) == -1) := by
      rw [Bool.eq_iff_iff, beq_iff_eq, beq_iff_eq, p, fdivP]
      simp only [Nat.reduceSub] at *
      omega
    rw [e]
    exact h

theorem rft5 (n : Int) (hn : In n) {b : Bool} (h : (sgnF n 5 == n) = b) : TabOK Try.prog (fun _ => n) sl0 [(17, [.sx .i64 (.a 0), (.v (.int .i64 (.ofNat 5)))], .v (.bool b))] := by
  intro x hx
  simp only [List.mem_cons, List.not_mem_nil, or_false] at hx
  subst hx
  subst h
  exact rfits5 n hn

theorem rwide5 (n : Int) (hn : In n) : Ret Try.prog 19 [.int .i64 n, .int .i64 (5 : Nat)] (.bool (sgnF n 5 == n || lowF n 5 == n)) := by
  cases hf : (sgnF n 5 == n) with
  | true =>
    have h := retV (val := fun _ => n) (F := []) holds_nil (rft5 n hn hf) (by kernel_rfl) (by kernel_rfl) (f := 19) (args := [.sx .i64 (.a 0), (.v (.int .i64 (.ofNat 5)))]) (v := .v (.bool true)) (by kernel_rfl) (by kernel_rfl) (by kernel_rfl)
    exact h
  | false =>
    have p := (pl5 n hn).fit
    rw [beq_eq_false_iff_ne] at hf
    obtain ⟨h1, h2⟩ := id hn
    have pl := (pl5 n hn).low
    by_cases hc : 1 ≤ n
    · have hh : Holds (fun _ => n) [.ge (.a 0) 1] := holds_cons hc holds_nil
      have h := retV hh (rft5 n hn (beq_eq_false_iff_ne.2 hf)) (by kernel_rfl) (by kernel_rfl) (f := 19) (args := [.sx .i64 (.a 0), (.v (.int .i64 (.ofNat 5)))]) (v := .sb (.eq (.shr (.a 0) 5) (.c 0))) (by kernel_rfl) (by kernel_rfl) (by kernel_rfl)
      have e : (false || lowF n 5 == n) = (n.fdiv (2 ^ 5) == 0) := by
        rw [Bool.false_or, Bool.eq_iff_iff, beq_iff_eq, beq_iff_eq, pl, fdivP]
        omega
      rw [e]
      exact h
    · have hh : Holds (fun _ => n) [.le (.a 0) 0] := holds_cons (show n ≤ 0 by omega) holds_nil
      have h := retV hh (rft5 n hn (beq_eq_false_iff_ne.2 hf)) (by kernel_rfl) (by kernel_rfl) (f := 19) (args := [.sx .i64 (.a 0), (.v (.int .i64 (.ofNat 5)))]) (v := .v (.bool false)) (by kernel_rfl) (by kernel_rfl) (by kernel_rfl)
      have e : (false || lowF n 5 == n) = false := by
        rw [Bool.false_or, beq_eq_false_iff_ne]
        intro hl
        rw [pl] at hl
        simp only [Nat.reduceSub] at *
        apply hf
        rw [p]
        omega
      rw [e]
      exact h

theorem rlow6 (n : Int) (hn : In n) : Ret Try.prog 23 [.int .i64 n, .int .i64 (6 : Nat)] (.int .i64 (lowF n 6)) := by
  have h := retV (val := fun _ => n) (F := []) holds_nil tabNil rfl rfl (f := 23) (args := [.sx .i64 (.a 0), (.v (.int .i64 (.ofNat 6)))]) (v := .sx .i64 (chain 6)) (by kernel_rfl) (by kernel_rfl) (by kernel_rfl)
  simp only [concs, conc, chain_eval _ 6 (by omega)] at h
  have e : IntKind.i64.wrap (n % 2 ^ 6) = lowF n 6 := by
    obtain ⟨h1, h2⟩ := hn
    simp only [wrapI, lowF]
    omega
  rw [← e]
  exact h

theorem rlt6 (n : Int) (hn : In n) : TabOK Try.prog (fun j => [n, lowF n 6].getD j 0) sl0 [(23, [.sx .i64 (.a 0), (.v (.int .i64 (.ofNat 6)))], .sx .i64 (.a 1))] := by
  intro x hx
  simp only [List.mem_cons, List.not_mem_nil, or_false] at hx
  subst hx
  exact rlow6 n hn

theorem rsign6 (n : Int) (hn : In n) : Ret Try.prog 21 [.int .i64 n, .int .i64 (6 : Nat)] (.int .i64 (sgnF n 6)) := by
  have hb : (SX.eval (fun j => [n, lowF n 6].getD j 0) (.and .i64 (.shr (.a 1) 5) (.c 1))) = lowF n 6 / 2 ^ 5 % 2 := by
    show IntKind.i64.wrap (BitVec.ofInt IntKind.i64.bits ((lowF n 6).fdiv (2 ^ 5)) &&& BitVec.ofInt IntKind.i64.bits 1).toNat = _
    rw [andOne, fdivP]
  obtain ⟨h1, h2⟩ := id hn
  by_cases hc : lowF n 6 / 2 ^ 5 % 2 = 1
  · have hh : Holds (fun j => [n, lowF n 6].getD j 0) [.is (.and .i64 (.shr (.a 1) 5) (.c 1)) 1] := holds_cons (hb.trans hc) holds_nil
    have h := retV hh (rlt6 n hn) (by kernel_rfl) (by kernel_rfl) (f := 21) (args := [.sx .i64 (.a 0), (.v (.int .i64 (.ofNat 6)))]) (v := .sx .i64 (.wrap .i64 (.sub (.a 1) (.c 64)))) (by kernel_rfl) (by kernel_rfl) (by kernel_rfl)
    have e : IntKind.i64.wrap (lowF n 6 - 64) = sgnF n 6 := by
      simp only [wrapI, lowF, sgnF] at hc ⊢
      omega
    rw [← e]
    exact h
  · have hh : Holds (fun j => [n, lowF n 6].getD j 0) [.ne (.and .i64 (.shr (.a 1) 5) (.c 1)) 1] := holds_cons (by show _ ≠ _; rw [hb]; exact hc) holds_nil
    have h := retV hh (rlt6 n hn) (by kernel_rfl) (by kernel_rfl) (f := 21) (args := [.sx .i64 (.a 0), (.v (.int .i64 (.ofNat 6)))]) (v := .sx .i64 (.a 1)) (by kernel_rfl) (by kernel_rfl) (by kernel_rfl)
    have e : lowF n 6 = sgnF n 6 := by
      simp only [lowF, sgnF] at hc ⊢
      omega
    rw [← e]
    exact h

theorem rfits6 (n : Int) (hn : In n) : Ret Try.prog 17 [.int .i64 n, .int .i64 (6 : Nat)] (.bool (sgnF n 6 == n)) := by
  have hb : (SX.eval (fun _ => n) (.shr (.a 0) 5)) = n / 2 ^ 5 := by show n.fdiv (2 ^ 5) = _; rw [fdivP]
  have p := (pl6 n hn).fit
  obtain ⟨h1, h2⟩ := id hn
  by_cases hc : n / 2 ^ 5 = 0
  · have hh : Holds (fun _ => n) [.is (.shr (.a 0) 5) 0] := holds_cons (hb.trans hc) holds_nil
    have h := retV hh tabNil rfl rfl (f := 17) (args := [.sx .i64 (.a 0), (.v (.int .i64 (.ofNat 6)))]) (v := .v (.bool true)) (by kernel_rfl) (by kernel_rfl) (by kernel_rfl)
    have e : (sgnF n 6 == n) = true := by
      rw [beq_iff_eq, p]
      simp only [Nat.reduceSub] at *
      omega
    rw [e]
    exact h
  · have hh : Holds (fun _ => n) [.ne (.shr (.a 0) 5) 0] := holds_cons (by show _ ≠ _; rw [hb]; exact hc) holds_nil
    have h := retV hh tabNil rfl rfl (f := 17) (args := [.sx .i64 (.a 0), (.v (.int .i64 (.ofNat 6)))]) (v := .sb (.eq (.shr (.a 0) 5) (.c (-1)))) (by kernel_rfl) (by kernel_rfl) (by kernel_rfl)
    have e : (sgnF n 6 == n) = (n.fdiv (2 ^ 5) == -1) := by
      rw [Bool.eq_iff_iff, beq_iff_eq, beq_iff_eq, p, fdivP]
      simp only [Nat.reduceSub] at *
      omega
    rw [e]
    exact h

theorem rft6 (n : Int) (hn : In n) {b : Bool} (h : (sgnF n 6 == n) = b) : TabOK Try.prog (fun _ => n) sl0 [(17, [.sx .i64 (.a 0), (.v (.int .i64 (.ofNat 6)))], .v (.bool b))] := by
  intro x hx
  simp only [List.mem_cons, List.not_mem_nil, or_false] at hx
  subst hx
  subst h
  exact rfits6 n hn

theorem rwide6 (n : Int) (hn : In n) : Ret Try.prog 19 [.int .i64 n, .int .i64 (6 : Nat)] (.bool (sgnF n 6 == n || lowF n 6 == n)) := by
  cases hf : (sgnF n 6 == n) with
  | true =>
    have h := retV (val := fun _ => n) (F := []) holds_nil (rft6 n hn hf) (by kernel_rfl) (by kernel_rfl) (f := 19) (args := [.sx .i64 (.a 0), (.v (.int .i64 (.ofNat 6)))]) (v := .v (.bool true)) (by kernel_rfl) (by kernel_rfl) (by kernel_rfl)
    exact h
  | false =>
    have p := (pl6 n hn).fit
    rw [beq_eq_false_iff_ne] at hf
    obtain ⟨h1, h2⟩ := id hn
    have pl := (pl6 n hn).low
    by_cases hc : 1 ≤ n
    · have hh : Holds (fun _ => n) [.ge (.a 0) 1] := holds_cons hc holds_nil
      have h := retV hh (rft6 n hn (beq_eq_false_iff_ne.2 hf)) (by kernel_rfl) (by kernel_rfl) (f := 19) (args := [.sx .i64 (.a 0), (.v (.int .i64 (.ofNat 6)))]) (v := .sb (.eq (.shr (.a 0) 6) (.c 0))) (by kernel_rfl) (by kernel_rfl) (by kernel_rfl)
      have e : (false || lowF n 6 == n) = (n.fdiv (2 ^ 6) == 0) := by
        rw [Bool.false_or, Bool.eq_iff_iff, beq_iff_eq, beq_iff_eq, pl, fdivP]
        omega
      rw [e]
      exact h
    · have hh : Holds (fun _ => n) [.le (.a 0) 0] := holds_cons (show n ≤ 0 by omega) holds_nil
      have h := retV hh (rft6 n hn (beq_eq_false_iff_ne.2 hf)) (by kernel_rfl) (by kernel_rfl) (f := 19) (args := [.sx .i64 (.a 0), (.v (.int .i64 (.ofNat 6)))]) (v := .v (.bool false)) (by kernel_rfl) (by kernel_rfl) (by kernel_rfl)
      have e : (false || lowF n 6 == n) = false := by
        rw [Bool.false_or, beq_eq_false_iff_ne]
        intro hl
        rw [pl] at hl
        simp only [Nat.reduceSub] at *
        apply hf
        rw [p]
        omega
      rw [e]
      exact h

theorem rlow7 (n : Int) (hn : In n) : Ret Try.prog 23 [.int .i64 n, .int .i64 (7 : Nat)] (.int .i64 (lowF n 7)) := by
  have h := retV (val := fun _ => n) (F := []) holds_nil tabNil rfl rfl (f := 23) (args := [.sx .i64 (.a 0), (.v (.int .i64 (.ofNat 7)))]) (v := .sx .i64 (chain 7)) (by kernel_rfl) (by kernel_rfl) (by kernel_rfl)
  simp only [concs, conc, chain_eval _ 7 (by omega)] at h
  have e : IntKind.i64.wrap (n % 2 ^ 7) = lowF n 7 := by
    obtain ⟨h1, h2⟩ := hn
    simp only [wrapI, lowF]
    omega
  rw [← e]
  exact h

theorem rlt7 (n : Int) (hn : In n) : TabOK Try.prog (fun j => [n, lowF n 7].getD j 0) sl0 [(23, [.sx .i64 (.a 0), (.v (.int .i64 (.ofNat 7)))], .sx .i64 (.a 1))] := by
  intro x hx
  simp only [List.mem_cons, List.not_mem_nil, or_false] at hx
  subst hx
  exact rlow7 n hn

theorem rsign7 (n : Int) (hn : In n) : Ret Try.prog 21 [.int .i64 n, .int .i64 (7 : Nat)] (.int .i64 (sgnF n 7)) := by
  have hb : (SX.eval (fun j => [n, lowF n 7].getD j 0) (.and .i64 (.shr (.a 1) 6) (.c 1))) = lowF n 7 / 2 ^ 6 % 2 := by
    show IntKind.i64.wrap (BitVec.ofInt IntKind.i64.bits ((lowF n 7).fdiv (2 ^ 6)) &&& BitVec.ofInt IntKind.i64.bits 1).toNat = _
    rw [andOne, fdivP]
  obtain ⟨h1, h2⟩ := id hn
  by_cases hc : lowF n 7 / 2 ^ 6 % 2 = 1
  · have hh : Holds (fun j => [n, lowF n 7].getD j 0) [.is (.and .i64 (.shr (.a 1) 6) (.c 1)) 1] := holds_cons (hb.trans hc) holds_nil
    have h := retV hh (rlt7 n hn) (by kernel_rfl) (by kernel_rfl) (f := 21) (args := [.sx .i64 (.a 0), (.v (.int .i64 (.ofNat 7)))]) (v := .sx .i64 (.wrap .i64 (.sub (.a 1) (.c 128)))) (by kernel_rfl) (by kernel_rfl) (by kernel_rfl)
    have e : IntKind.i64.wrap (lowF n 7 - 128) = sgnF n 7 := by
      simp only [wrapI, lowF, sgnF] at hc ⊢
      omega
    rw [← e]
    exact h
  · have hh : Holds (fun j => [n, lowF n 7].getD j 0) [.ne (.and .i64 (.shr (.a 1) 6) (.c 1)) 1] := holds_cons (by show _ ≠ _; rw [hb]; exact hc) holds_nil
    have h := retV hh (rlt7 n hn) (by kernel_rfl) (by kernel_rfl) (f := 21) (args := [.sx .i64 (.a 0), (.v (.int .i64 (.ofNat 7)))]) (v := .sx .i64 (.a 1)) (by kernel_rfl) (by kernel_rfl) (by kernel_rfl)
    have e : lowF n 7 = sgnF n 7 := by
      simp only [lowF, sgnF] at hc ⊢
      omega
    rw [← e]
    exact h

theorem rfits7 (n : Int) (hn : In n) : Ret Try.prog 17 [.int .i64 n, .int .i64 (7 : Nat)] (.bool (sgnF n 7 == n)) := by
  have hb : (SX.eval (fun _ => n) (.shr (.a 0) 6)) = n / 2 ^ 6 := by show n.fdiv (2 ^ 6) = _; rw [fdivP]
  have p := (pl7 n hn).fit
  obtain ⟨h1, h2⟩ := id hn
  by_cases hc : n / 2 ^ 6 = 0
  · have hh : Holds (fun _ => n) [.is (.shr (.a 0) 6) 0] := holds_cons (hb.trans hc) holds_nil
    have h := retV hh tabNil rfl rfl (f := 17) (args := [.sx .i64 (.a 0), (.v (.int .i64 (.ofNat 7)))]) (v := .v (.bool true)) (by kernel_rfl) (by kernel_rfl) (by kernel_rfl)
    have e : (sgnF n 7 == n) = true := by
      rw [beq_iff_eq, p]
      simp only [Nat.reduceSub] at *
      omega
    rw [e]
    exact h
  · have hh : Holds (fun _ => n) [.ne (.shr (.a 0) 6) 0] := holds_cons (by show _ ≠ _; rw [hb]; exact hc) holds_nil
    have h := retV hh tabNil rfl rfl (f := 17) (args := [.sx .i64 (.a 0), (.v (.int .i64 (.ofNat 7)))]) (v := .sb (.eq (.shr (.a 0) 6) (.c (-1)))) (by kernel_rfl) (by kernel_rfl) (by kernel_rfl)
    have e : (sgnF n 7 == n) = (n.fdiv (2 ^ 6) == -1) := by
      rw [Bool.eq_iff_iff, beq_iff_eq, beq_iff_eq, p, fdivP]
      simp only [Nat.reduceSub] at *
      omega
    rw [e]
    exact h

theorem rft7 (n : Int) (hn : In n) {b : Bool} (h : (sgnF n 7 == n) = b) : TabOK Try.prog (fun _ => n) sl0 [(17, [.sx .i64 (.a 0), (.v (.int .i64 (.ofNat 7)))], .v (.bool b))] := by
  intro x hx
  simp only [List.mem_cons, List.not_mem_nil, or_false] at hx
  subst hx
  subst h
  exact rfits7 n hn

theorem rwide7 (n : Int) (hn : In n) : Ret Try.prog 19 [.int .i64 n, .int .i64 (7 : Nat)] (.bool (sgnF n 7 == n || lowF n 7 == n)) := by
  cases hf : (sgnF n 7 == n) with
  | true =>
    have h := retV (val := fun _ => n) (F := []) holds_nil (rft7 n hn hf) (by kernel_rfl) (by kernel_rfl) (f := 19) (args := [.sx .i64 (.a 0), (.v (.int .i64 (.ofNat 7)))]) (v := .v (.bool true)) (by kernel_rfl) (by kernel_rfl) (by kernel_rfl)
    exact h
  | false =>
    have p := (pl7 n hn).fit
    rw [beq_eq_false_iff_ne] at hf
    obtain ⟨h1, h2⟩ := id hn
    have pl := (pl7 n hn).low
    by_cases hc : 1 ≤ n
    · have hh : Holds (fun _ => n) [.ge (.a 0) 1] := holds_cons hc holds_nil
      have h := retV hh (rft7 n hn (beq_eq_false_iff_ne.2 hf)) (by kernel_rfl) (by kernel_rfl) (f := 19) (args := [.sx .i64 (.a 0), (.v (.int .i64 (.ofNat 7)))]) (v := .sb (.eq (.shr (.a 0) 7) (.c 0))) (by kernel_rfl) (by kernel_rfl) (by kernel_rfl)
      have e : (false || lowF n 7 == n) = (n.fdiv (2 ^ 7) == 0) := by
        rw [Bool.false_or, Bool.eq_iff_iff, beq_iff_eq, beq_iff_eq, pl, fdivP]
        omega
      rw [e]
      exact h
    · have hh : Holds (fun _ => n) [.le (.a 0) 0] := holds_cons (show n ≤ 0 by omega) holds_nil
      have h := retV hh (rft7 n hn (beq_eq_false_iff_ne.2 hf)) (by kernel_rfl) (by kernel_rfl) (f := 19) (args := [.sx .i64 (.a 0), (.v (.int .i64 (.ofNat 7)))]) (v := .v (.bool false)) (by kernel_rfl) (by kernel_rfl) (by kernel_rfl)
      have e : (false || lowF n 7 == n) = false := by
        rw [Bool.false_or, beq_eq_false_iff_ne]
        intro hl
        rw [pl] at hl
        simp only [Nat.reduceSub] at *
        apply hf
        rw [p]
        omega
      rw [e]
      exact h

theorem rlow8 (n : Int) (hn : In n) : Ret Try.prog 23 [.int .i64 n, .int .i64 (8 : Nat)] (.int .i64 (lowF n 8)) := by
  have h := retV (val := fun _ => n) (F := []) holds_nil tabNil rfl rfl (f := 23) (args := [.sx .i64 (.a 0), (.v (.int .i64 (.ofNat 8)))]) (v := .sx .i64 (chain 8)) (by kernel_rfl) (by kernel_rfl) (by kernel_rfl)
  simp only [concs, conc, chain_eval _ 8 (by omega)] at h
  have e : IntKind.i64.wrap (n % 2 ^ 8) = lowF n 8 := by
    obtain ⟨h1, h2⟩ := hn
    simp only [wrapI, lowF]
    omega
  rw [← e]
  exact h

theorem rlt8 (n : Int) (hn : In n) : TabOK Try.prog (fun j => [n, lowF n 8].getD j 0) sl0 [(23, [.sx .i64 (.a 0), (.v (.int .i64 (.ofNat 8)))], .sx .i64 (.a 1))] := by
  intro x hx
  simp only [List.mem_cons, List.not_mem_nil, or_false] at hx
  subst hx
  exact rlow8 n hn

theorem rsign8 (n : Int) (hn : In n) : Ret Try.prog 21 [.int .i64 n, .int .i64 (8 : Nat)] (.int .i64 (sgnF n 8)) := by
  have hb : (SX.eval (fun j => [n, lowF n 8].getD j 0) (.and .i64 (.shr (.a 1) 7) (.c 1))) = lowF n 8 / 2 ^ 7 % 2 := by
    show IntKind.i64.wrap (BitVec.ofInt IntKind.i64.bits ((lowF n 8).fdiv (2 ^ 7)) &&& BitVec.ofInt IntKind.i64.bits 1).toNat = _
    rw [andOne, fdivP]
  obtain ⟨h1, h2⟩ := id hn
  by_cases hc : lowF n 8 / 2 ^ 7 % 2 = 1
  · have hh : Holds (fun j => [n, lowF n 8].getD j 0) [.is (.and .i64 (.shr (.a 1) 7) (.c 1)) 1] := holds_cons (hb.trans hc) holds_nil
    have h := retV hh (rlt8 n hn) (by kernel_rfl) (by kernel_rfl) (f := 21) (args := [.sx .i64 (.a 0), (.v (.int .i64 (.ofNat 8)))]) (v := .sx .i64 (.wrap .i64 (.sub (.a 1) (.c 256)))) (by kernel_rfl) (by kernel_rfl) (by kernel_rfl)
    have e : IntKind.i64.wrap (lowF n 8 - 256) = sgnF n 8 := by
      simp only [wrapI, lowF, sgnF] at hc ⊢
      omega
    rw [← e]
    exact h
  · have hh : Holds (fun j => [n, lowF n 8].getD j 0) [.ne (.and .i64 (.shr (.a 1) 7) (.c 1)) 1] := holds_cons (by show _ ≠ _; rw [hb]; exact hc) holds_nil
    have h := retV hh (rlt8 n hn) (by kernel_rfl) (by kernel_rfl) (f := 21) (args := [.sx .i64 (.a 0), (.v (.int .i64 (.ofNat 8)))]) (v := .sx .i64 (.a 1)) (by kernel_rfl) (by kernel_rfl) (by kernel_rfl)
    have e : lowF n 8 = sgnF n 8 := by
      simp only [lowF, sgnF] at hc ⊢
      omega
    rw [← e]
    exact h

theorem rfits8 (n : Int) (hn : In n) : Ret Try.prog 17 [.int .i64 n, .int .i64 (8 : Nat)] (.bool (sgnF n 8 == n)) := by
  have hb : (SX.eval (fun _ => n) (.shr (.a 0) 7)) = n / 2 ^ 7 := by show n.fdiv (2 ^ 7) = _; rw [fdivP]
  have p := (pl8 n hn).fit
  obtain ⟨h1, h2⟩ := id hn
  by_cases hc : n / 2 ^ 7 = 0
  · have hh : Holds (fun _ => n) [.is (.shr (.a 0) 7) 0] := holds_cons (hb.trans hc) holds_nil
    have h := retV hh tabNil rfl rfl (f := 17) (args := [.sx .i64 (.a 0), (.v (.int .i64 (.ofNat 8)))]) (v := .v (.bool true)) (by kernel_rfl) (by kernel_rfl) (by kernel_rfl)
    have e : (sgnF n 8 == n) = true := by
      rw [beq_iff_eq, p]
      simp only [Nat.reduceSub] at *
      omega
    rw [e]
    exact h
  · have hh : Holds (fun _ => n) [.ne (.shr (.a 0) 7) 0] := holds_cons (by show _ ≠ _; rw [hb]; exact hc) holds_nil
    have h := retV hh tabNil rfl rfl (f := 17) (args := [.sx .i64 (.a 0), (.v (.int .i64 (.ofNat 8)))]) (v := .sb (.eq (.shr (.a 0) 7) (.c (-1)))) (by kernel_rfl) (by kernel_rfl) (by kernel_rfl)
    have e : (sgnF n 8 == n) = (n.fdiv (2 ^ 7) == -1) := by
      rw [Bool.eq_iff_iff, beq_iff_eq, beq_iff_eq, p, fdivP]
      simp only [Nat.reduceSub] at *
      omega
    rw [e]
    exact h

theorem rft8 (n : Int) (hn : In n) {b : Bool} (h : (sgnF n 8 == n) = b) : TabOK Try.prog (fun _ => n) sl0 [(17, [.sx .i64 (.a 0), (.v (.int .i64 (.ofNat 8)))], .v (.bool b))] := by
  intro x hx
  simp only [List.mem_cons, List.not_mem_nil, or_false] at hx
  subst hx
  subst h
  exact rfits8 n hn

theorem rwide8 (n : Int) (hn : In n) : Ret Try.prog 19 [.int .i64 n, .int .i64 (8 : Nat)] (.bool (sgnF n 8 == n || lowF n 8 == n)) := by
  cases hf : (sgnF n 8 == n) with
  | true =>
    have h := retV (val := fun _ => n) (F := []) holds_nil (rft8 n hn hf) (by kernel_rfl) (by kernel_rfl) (f := 19) (args := [.sx .i64 (.a 0), (.v (.int .i64 (.ofNat 8)))]) (v := .v (.bool true)) (by kernel_rfl) (by kernel_rfl) (by kernel_rfl)
    exact h
  | false =>
    have p := (pl8 n hn).fit
    rw [beq_eq_false_iff_ne] at hf
    obtain ⟨h1, h2⟩ := id hn
    have pl := (pl8 n hn).low
    by_cases hc : 1 ≤ n
    · have hh : Holds (fun _ => n) [.ge (.a 0) 1] := holds_cons hc holds_nil
      have h := retV hh (rft8 n hn (beq_eq_false_iff_ne.2 hf)) (by kernel_rfl) (by kernel_rfl) (f := 19) (args := [.sx .i64 (.a 0), (.v (.int .i64 (.ofNat 8)))]) (v := .sb (.eq (.shr (.a 0) 8) (.c 0))) (by kernel_rfl) (by kernel_rfl) (by kernel_rfl)
      have e : (false || lowF n 8 == n) = (n.fdiv (2 ^ 8) == 0) := by
        rw [Bool.false_or, Bool.eq_iff_iff, beq_iff_eq, beq_iff_eq, pl, fdivP]
        omega
      rw [e]
      exact h
    · have hh : Holds (fun _ => n) [.le (.a 0) 0] := holds_cons (show n ≤ 0 by omega) holds_nil
      have h := retV hh (rft8 n hn (beq_eq_false_iff_ne.2 hf)) (by kernel_rfl) (by kernel_rfl) (f := 19) (args := [.sx .i64 (.a 0), (.v (.int .i64 (.ofNat 8)))]) (v := .v (.bool false)) (by kernel_rfl) (by kernel_rfl) (by kernel_rfl)
      have e : (false || lowF n 8 == n) = false := by
        rw [Bool.false_or, beq_eq_false_iff_ne]
        intro hl
        rw [pl] at hl
        simp only [Nat.reduceSub] at *
        apply hf
        rw [p]
        omega
      rw [e]
      exact h

theorem rlow9 (n : Int) (hn : In n) : Ret Try.prog 23 [.int .i64 n, .int .i64 (9 : Nat)] (.int .i64 (lowF n 9)) := by
  have h := retV (val := fun _ => n) (F := []) holds_nil tabNil rfl rfl (f := 23) (args := [.sx .i64 (.a 0), (.v (.int .i64 (.ofNat 9)))]) (v := .sx .i64 (chain 9)) (by kernel_rfl) (by kernel_rfl) (by kernel_rfl)
  simp only [concs, conc, chain_eval _ 9 (by omega)] at h
  have e : IntKind.i64.wrap (n % 2 ^ 9) = lowF n 9 := by
    obtain ⟨h1, h2⟩ := hn
    simp only [wrapI, lowF]
    omega
  rw [← e]
  exact h

theorem rlt9 (n : Int) (hn : In n) : TabOK Try.prog (fun j => [n, lowF n 9].getD j 0) sl0 [(23, [.sx .i64 (.a 0), (.v (.int .i64 (.ofNat 9)))], .sx .i64 (.a 1))] := by
  intro x hx
  simp only [List.mem_cons, List.not_mem_nil, or_false] at hx
  subst hx
  exact rlow9 n hn

theorem rsign9 (n : Int) (hn : In n) : Ret Try.prog 21 [.int .i64 n, .int .i64 (9 : Nat)] (.int .i64 (sgnF n 9)) := by
  have hb : (SX.eval (fun j => [n, lowF n 9].getD j 0) (.and .i64 (.shr (.a 1) 8) (.c 1))) = lowF n 9 / 2 ^ 8 % 2 := by
    show IntKind.i64.wrap (BitVec.ofInt IntKind.i64.bits ((lowF n 9).fdiv (2 ^ 8)) &&& BitVec.ofInt IntKind.i64.bits 1).toNat = _
    rw [andOne, fdivP]
  obtain ⟨h1, h2⟩ := id hn
  by_cases hc : lowF n 9 / 2 ^ 8 % 2 = 1
  · have hh : Holds (fun j => [n, lowF n 9].getD j 0) [.is (.and .i64 (.shr (.a 1) 8) (.c 1)) 1] := holds_cons (hb.trans hc) holds_nil
    have h := retV hh (rlt9 n hn) (by kernel_rfl) (by kernel_rfl) (f := 21) (args := [.sx .i64 (.a 0), (.v (.int .i64 (.ofNat 9)))]) (v := .sx .i64 (.wrap .i64 (.sub (.a 1) (.c 512)))) (by kernel_rfl) (by kernel_rfl) (by kernel_rfl)
    have e : IntKind.i64.wrap (lowF n 9 - 512) = sgnF n 9 := by
      simp only [wrapI, lowF, sgnF] at hc ⊢
      omega
    rw [← e]
    exact h
  · have hh : Holds (fun j => [n, lowF n 9].getD j 0) [.ne (.and .i64 (.shr (.a 1) 8) (.c 1)) 1] := holds_cons (by show _ ≠ _; rw [hb]; exact hc) holds_nil
    have h := retV hh (rlt9 n hn) (by kernel_rfl) (by kernel_rfl) (f := 21) (args := [.sx .i64 (.a 0), (.v (.int .i64 (.ofNat 9)))]) (v := .sx .i64 (.a 1)) (by kernel_rfl) (by kernel_rfl) (by kernel_rfl)
    have e : lowF n 9 = sgnF n 9 := by
      simp only [lowF, sgnF] at hc ⊢
      omega
    rw [← e]
    exact h

theorem rfits9 (n : Int) (hn : In n) : Ret Try.prog 17 [.int .i64 n, .int .i64 (9 : Nat)] (.bool (sgnF n 9 == n)) := by
  have hb : (SX.eval (fun _ => n) (.shr (.a 0) 8)) = n / 2 ^ 8 := by show n.fdiv (2 ^ 8) = _; rw [fdivP]
  have p := (pl9 n hn).fit
  obtain ⟨h1, h2⟩ := id hn
  by_cases hc : n / 2 ^ 8 = 0
  · have hh : Holds (fun _ => n) [.is (.shr (.a 0) 8) 0] := holds_cons (hb.trans hc) holds_nil
    have h := retV hh tabNil rfl rfl (f := 17) (args := [.sx .i64 (.a 0), (.v (.int .i64 (.ofNat 9)))]) (v := .v (.bool true)) (by kernel_rfl) (by kernel_rfl) (by kernel_rfl)
    have e : (sgnF n 9 == n) = true := by
      rw [beq_iff_eq, p]
      simp only [Nat.reduceSub] at *
      omega
    rw [e]
    exact h
  · have hh : Holds (fun _ => n) [.ne (.shr (.a 0) 8) 0] := holds_cons (by show _ ≠ _; rw [hb]; exact hc) holds_nil
    have h := retV hh tabNil rfl rfl (f := 17) (args := [.sx .i64 (.a 0), (.v (.int .i64 (.ofNat 9)))]) (v := .sb (.eq (.shr (.a 0) 8) (.c (-1)))) (by kernel_rfl) (by kernel_rfl) (by kernel_rfl)
    have e : (sgnF n 9 == n) = (n.fdiv (2 ^ 8) == -1) := by
      rw [Bool.eq_iff_iff, beq_iff_eq, beq_iff_eq, p, fdivP]
      simp only [Nat.reduceSub] at *
      omega
    rw [e]
    exact h

theorem rft9 (n : Int) (hn : In n) {b : Bool} (h : (sgnF n 9 == n) = b) : TabOK Try.prog (fun _ => n) sl0 [(17, [.sx .i64 (.a 0), (.v (.int .i64 (.ofNat 9)))], .v (.bool b))] := by
  intro x hx
  simp only [List.mem_cons, List.not_mem_nil, or_false] at hx
  subst hx
  subst h
  exact rfits9 n hn

theorem rwide9 (n : Int) (hn : In n) : Ret Try.prog 19 [.int .i64 n, .int .i64 (9 : Nat)] (.bool (sgnF n 9 == n || lowF n 9 == n)) := by
  cases hf : (sgnF n 9 == n) with
  | true =>
    have h := retV (val := fun _ => n) (F := []) holds_nil (rft9 n hn hf) (by kernel_rfl) (by kernel_rfl) (f := 19) (args := [.sx .i64 (.a 0), (.v (.int .i64 (.ofNat 9)))]) (v := .v (.bool true)) (by kernel_rfl) (by kernel_rfl) (by kernel_rfl)
    exact h
  | false =>
    have p := (pl9 n hn).fit
    rw [beq_eq_false_iff_ne] at hf
    obtain ⟨h1, h2⟩ := id hn
    have pl := (pl9 n hn).low
    by_cases hc : 1 ≤ n
    · have hh : Holds (fun _ => n) [.ge (.a 0) 1] := holds_cons hc holds_nil
      have h := retV hh (rft9 n hn (beq_eq_false_iff_ne.2 hf)) (by kernel_rfl) (by kernel_rfl) (f := 19) (args := [.sx .i64 (.a 0), (.v (.int .i64 (.ofNat 9)))]) (v := .sb (.eq (.shr (.a 0) 9) (.c 0))) (by kernel_rfl) (by kernel_rfl) (by kernel_rfl)
      have e : (false || lowF n 9 == n) = (n.fdiv (2 ^ 9) == 0) := by
        rw [Bool.false_or, Bool.eq_iff_iff, beq_iff_eq, beq_iff_eq, pl, fdivP]
        omega
      rw [e]
      exact h
    · have hh : Holds (fun _ => n) [.le (.a 0) 0] := holds_cons (show n ≤ 0 by omega) holds_nil
      have h := retV hh (rft9 n hn (beq_eq_false_iff_ne.2 hf)) (by kernel_rfl) (by kernel_rfl) (f := 19) (args := [.sx .i64 (.a 0), (.v (.int .i64 (.ofNat 9)))]) (v := .v (.bool false)) (by kernel_rfl) (by kernel_rfl) (by kernel_rfl)
      have e : (false || lowF n 9 == n) = false := by
        rw [Bool.false_or, beq_eq_false_iff_ne]
        intro hl
        rw [pl] at hl
        simp only [Nat.reduceSub] at *
        apply hf
        rw [p]
        omega
      rw [e]
      exact h

theorem rlow10 (n : Int) (hn : In n) : Ret Try.prog 23 [.int .i64 n, .int .i64 (10 : Nat)] (.int .i64 (lowF n 10)) := by
  have h := retV (val := fun _ => n) (F := []) holds_nil tabNil rfl rfl (f := 23) (args := [.sx .i64 (.a 0), (.v (.int .i64 (.ofNat 10)))]) (v := .sx .i64 (chain 10)) (by kernel_rfl) (by kernel_rfl) (by kernel_rfl)
  simp only [concs, conc, chain_eval _ 10 (by omega)] at h
  have e : IntKind.i64.wrap (n % 2 ^ 10) = lowF n 10 := by
    obtain ⟨h1, h2⟩ := hn
    simp only [wrapI, lowF]
    omega
  rw [← e]
  exact h

theorem rlt10 (n : Int) (hn : In n) : TabOK Try.prog (fun j => [n, lowF n 10].getD j 0) sl0 [(23, [.sx .i64 (.a 0), (.v (.int .i64 (.ofNat 10)))], .sx .i64 (.a 1))] := by
  intro x hx
  simp only [List.mem_cons, List.not_mem_nil, or_false] at hx
  subst hx
  exact rlow10 n hn

theorem rsign10 (n : Int) (hn : In n) : Ret Try.prog 21 [.int .i64 n, .int .i64 (10 : Nat)] (.int .i64 (sgnF n 10)) := by
  have hb : (SX.eval (fun j => [n, lowF n 10].getD j 0) (.and .i64 (.shr (.a 1) 9) (.c 1))) = lowF n 10 / 2 ^ 9 % 2 := by
    show IntKind.i64.wrap (BitVec.ofInt IntKind.i64.bits ((lowF n 10).fdiv (2 ^ 9)) &&& BitVec.ofInt IntKind.i64.bits 1).toNat = _
    rw [andOne, fdivP]
  obtain ⟨h1, h2⟩ := id hn
  by_cases hc : lowF n 10 / 2 ^ 9 % 2 = 1
  · have hh : Holds (fun j => [n, lowF n 10].getD j 0) [.is (.and .i64 (.shr (.a 1) 9) (.c 1)) 1] := holds_cons (hb.trans hc) holds_nil
    have h := retV hh (rlt10 n hn) (by kernel_rfl) (by kernel_rfl) (f := 21) (args := [.sx .i64 (.a 0), (.v (.int .i64 (.ofNat 10)))]) (v := .sx .i64 (.wrap .i64 (.sub (.a 1) (.c 1024)))) (by kernel_rfl) (by kernel_rfl) (by kernel_rfl)
    have e : IntKind.i64.wrap (lowF n 10 - 1024) = sgnF n 10 := by
      simp only [wrapI, lowF, sgnF] at hc ⊢
      omega
    rw [← e]
    exact h
  · have hh : Holds (fun j => [n, lowF n 10].getD j 0) [.ne (.and .i64 (.shr (.a 1) 9) (.c 1)) 1] := holds_cons (by show _ ≠ _; rw [hb]; exact hc) holds_nil
    have h := retV hh (rlt10 n hn) (by kernel_rfl) (by kernel_rfl) (f := 21) (args := [.sx .i64 (.a 0), (.v (.int .i64 (.ofNat 10)))]) (v := .sx .i64 (.a 1)) (by kernel_rfl) (by kernel_rfl) (by kernel_rfl)
    have e : lowF n 10 = sgnF n 10 := by
      simp only [lowF, sgnF] at hc ⊢
      omega
    rw [← e]
    exact h

theorem rfits10 (n : Int) (hn : In n) : Ret Try.prog 17 [.int .i64 n, .int .i64 (10 : Nat)] (.bool (sgnF n 10 == n)) := by
  have hb : (SX.eval (fun _ => n) (.shr (.a 0) 9)) = n / 2 ^ 9 := by show n.fdiv (2 ^ 9) = _; rw [fdivP]
  have p := (pl10 n hn).fit
  obtain ⟨h1, h2⟩ := id hn
  by_cases hc : n / 2 ^ 9 = 0
  · have hh : Holds (fun _ => n) [.is (.shr (.a 0) 9) 0] := holds_cons (hb.trans hc) holds_nil
    have h := retV hh tabNil rfl rfl (f := 17) (args := [.sx .i64 (.a 0), (.v (.int .i64 (.ofNat 10)))]) (v := .v (.bool true)) (by kernel_rfl) (by kernel_rfl) (by kernel_rfl)
    have e : (sgnF n 10 == n) = true := by
      rw [beq_iff_eq, p]
      simp only [Nat.reduceSub] at *
      omega
    rw [e]
    exact h
  · have hh : Holds (fun _ => n) [.ne (.shr (.a 0) 9) 0] := holds_cons (by show _ ≠ _; rw [hb]; exact hc) holds_nil
    have h := retV hh tabNil rfl rfl (f := 17) (args := [.sx .i64 (.a 0), (.v (.int .i64 (.ofNat 10)))]) (v := .sb (.eq (.shr (.a 0) 9) (.c (-1)))) (by kernel_rfl) (by kernel_rfl) (by kernel_rfl)
    have e : (sgnF n 10 == n) = (n.fdiv (2 ^ 9) == -1) := by
      rw [Bool.eq_iff_iff, beq_iff_eq, beq_iff_eq, p, fdivP]
      simp only [Nat.reduceSub] at *
      omega
    rw [e]
    exact h

theorem rft10 (n : Int) (hn : In n) {b : Bool} (h : (sgnF n 10 == n) = b) : TabOK Try.prog (fun _ => n) sl0 [(17, [.sx .i64 (.a 0), (.v (.int .i64 (.ofNat 10)))], .v (.bool b))] := by
  intro x hx
  simp only [List.mem_cons, List.not_mem_nil, or_false] at hx
  subst hx
  subst h
  exact rfits10 n hn

theorem rwide10 (n : Int) (hn : In n) : Ret Try.prog 19 [.int .i64 n, .int .i64 (10 : Nat)] (.bool (sgnF n 10 == n || lowF n 10 == n)) := by
  cases hf : (sgnF n 10 == n) with
  | true =>
    have h := retV (val := fun _ => n) (F := []) holds_nil (rft10 n hn hf) (by kernel_rfl) (by kernel_rfl) (f := 19) (args := [.sx .i64 (.a 0), (.v (.int .i64 (.ofNat 10)))]) (v := .v (.bool true)) (by kernel_rfl) (by kernel_rfl) (by kernel_rfl)
    exact h
  | false =>
    have p := (pl10 n hn).fit
    rw [beq_eq_false_iff_ne] at hf
    obtain ⟨h1, h2⟩ := id hn
    have pl := (pl10 n hn).low
    by_cases hc : 1 ≤ n
    · have hh : Holds (fun _ => n) [.ge (.a 0) 1] := holds_cons hc holds_nil
      have h := retV hh (rft10 n hn (beq_eq_false_iff_ne.2 hf)) (by kernel_rfl) (by kernel_rfl) (f := 19) (args := [.sx .i64 (.a 0), (.v (.int .i64 (.ofNat 10)))]) (v := .sb (.eq (.shr (.a 0) 10) (.c 0))) (by kernel_rfl) (by kernel_rfl) (by kernel_rfl)
      have e : (false || lowF n 10 == n) = (n.fdiv (2 ^ 10) == 0) := by
        rw [Bool.false_or, Bool.eq_iff_iff, beq_iff_eq, beq_iff_eq, pl, fdivP]
        omega
      rw [e]
      exact h
    · have hh : Holds (fun _ => n) [.le (.a 0) 0] := holds_cons (show n ≤ 0 by omega) holds_nil
      have h := retV hh (rft10 n hn (beq_eq_false_iff_ne.2 hf)) (by kernel_rfl) (by kernel_rfl) (f := 19) (args := [.sx .i64 (.a 0), (.v (.int .i64 (.ofNat 10)))]) (v := .v (.bool false)) (by kernel_rfl) (by kernel_rfl) (by kernel_rfl)
      have e : (false || lowF n 10 == n) = false := by
        rw [Bool.false_or, beq_eq_false_iff_ne]
        intro hl
        rw [pl] at hl
        simp only [Nat.reduceSub] at *
        apply hf
        rw [p]
        omega
      rw [e]
      exact h

theorem rlow11 (n : Int) (hn : In n) : Ret Try.prog 23 [.int .i64 n, .int .i64 (11 : Nat)] (.int .i64 (lowF n 11)) := by
  have h := retV (val := fun _ => n) (F := []) holds_nil tabNil rfl rfl (f := 23) (args := [.sx .i64 (.a 0), (.v (.int .i64 (.ofNat 11)))]) (v := .sx .i64 (chain 11)) (by kernel_rfl) (by kernel_rfl) (by kernel_rfl)
  simp only [concs, conc, chain_eval _ 11 (by omega)] at h
  have e : IntKind.i64.wrap (n % 2 ^ 11) = lowF n 11 := by
    obtain ⟨h1, h2⟩ := hn
    simp only [wrapI, lowF]
    omega
  rw [← e]
  exact h

theorem rlt11 (n : Int) (hn : In n) : TabOK Try.prog (fun j => [n, lowF n 11].getD j 0) sl0 [(23, [.sx .i64 (.a 0), (.v (.int .i64 (.ofNat 11)))], .sx .i64 (.a 1))] := by
  intro x hx
  simp only [List.mem_cons, List.not_mem_nil, or_false] at hx
  subst hx
  exact rlow11 n hn

theorem rsign11 (n : Int) (hn : In n) : Ret Try.prog 21 [.int .i64 n, .int .i64 (11 : Nat)] (.int .i64 (sgnF n 11)) := by
  have hb : (SX.eval (fun j => [n, lowF n 11].getD j 0) (.and .i64 (.shr (.a 1) 10) (.c 1))) = lowF n 11 / 2 ^ 10 % 2 := by
    show IntKind.i64.wrap (BitVec.ofInt IntKind.i64.bits ((lowF n 11).fdiv (2 ^ 10)) &&& BitVec.ofInt IntKind.i64.bits 1).toNat = _
    rw [andOne, fdivP]
  obtain ⟨h1, h2⟩ := id hn
  by_cases hc : lowF n 11 / 2 ^ 10 % 2 = 1
  · have hh : Holds (fun j => [n, lowF n 11].getD j 0) [.is (.and .i64 (.shr (.a 1) 10) (.c 1)) 1] := holds_cons (hb.trans hc) holds_nil
    have h := retV hh (rlt11 n hn) (by kernel_rfl) (by kernel_rfl) (f := 21) (args := [.sx .i64 (.a 0), (.v (.int .i64 (.ofNat 11)))]) (v := .sx .i64 (.wrap .i64 (.sub (.a 1) (.c 2048)))) (by kernel_rfl) (by kernel_rfl) (by kernel_rfl)
    have e : IntKind.i64.wrap (lowF n 11 - 2048) = sgnF n 11 := by
      simp only [wrapI, lowF, sgnF] at hc ⊢
      omega
    rw [← e]
    exact h
  · have hh : Holds (fun j => [n, lowF n 11].getD j 0) [.ne (.and .i64 (.shr (.a 1) 10) (.c 1)) 1] := holds_cons (by show _ ≠ _; rw [hb]; exact hc) holds_nil
    have h := retV hh (rlt11 n hn) (by kernel_rfl) (by kernel_rfl) (f := 21) (args := [.sx .i64 (.a 0), (.v (.int .i64 (.ofNat 11)))]) (v := .sx .i64 (.a 1)) (by kernel_rfl) (by kernel_rfl) (by kernel_rfl)
    have e : lowF n 11 = sgnF n 11 := by
      simp only [lowF, sgnF] at hc ⊢
      omega
    rw [← e]
    exact h

theorem rfits11 (n : Int) (hn : In n) : Ret Try.prog 17 [.int .i64 n, .int .i64 (11 : Nat)] (.bool (sgnF n 11 == n)) := by
  have hb : (SX.eval (fun _ => n) (.shr (.a 0) 10)) = n / 2 ^ 10 := by show n.fdiv (2 ^ 10) = _; rw [fdivP]
  have p := (pl11 n hn).fit
  obtain ⟨h1, h2⟩ := id hn
  by_cases hc : n / 2 ^ 10 = 0
  · have hh : Holds (fun _ => n) [.is (.shr (.a 0) 10) 0] := holds_cons (hb.trans hc) holds_nil
    have h := retV hh tabNil rfl rfl (f := 17) (args := [.sx .i64 (.a 0), (.v (.int .i64 (.ofNat 11)))]) (v := .v (.bool true)) (by kernel_rfl) (by kernel_rfl) (by kernel_rfl)
    have e : (sgnF n 11 == n) = true := by
      rw [beq_iff_eq, p]
      simp only [Nat.reduceSub] at *
      omega
    rw [e]
    exact h
  · have hh : Holds (fun _ => n) [.ne (.shr (.a 0) 10) 0] := holds_cons (by show _ ≠ _; rw [hb]; exact hc) holds_nil
    have h := retV hh tabNil rfl rfl (f := 17) (args := [.sx .i64 (.a 0), (.v (.int .i64 (.ofNat 11)))]) (v := .sb (.eq (.shr (.a 0) 10) (.c (-1)))) (by kernel_rfl) (by kernel_rfl) (by kernel_rfl)
    have e : (sgnF n 11 == n) = (n.fdiv (2 ^ 10) == -1) := by
      rw [Bool.eq_iff_iff, beq_iff_eq, beq_iff_eq, p, fdivP]
      simp only [Nat.reduceSub] at *
      omega
    rw [e]
    exact h

theorem rft11 (n : Int) (hn : In n) {b : Bool} (h : (sgnF n 11 == n) = b) : TabOK Try.prog (fun _ => n) sl0 [(17, [.sx .i64 (.a 0), (.v (.int .i64 (.ofNat 11)))], .v (.bool b))] := by
  intro x hx
  simp only [List.mem_cons, List.not_mem_nil, or_false] at hx
  subst hx
  subst h
  exact rfits11 n hn

theorem rwide11 (n : Int) (hn : In n) : Ret Try.prog 19 [.int .i64 n, .int .i64 (11 : Nat)] (.bool (sgnF n 11 == n || lowF n 11 == n)) := by
  cases hf : (sgnF n 11 == n) with
  | true =>
    have h := retV (val := fun _ => n) (F := []) holds_nil (rft11 n hn hf) (by kernel_rfl) (by kernel_rfl) (f := 19) (args := [.sx .i64 (.a 0), (.v (.int .i64 (.ofNat 11)))]) (v := .v (.bool true)) (by kernel_rfl) (by kernel_rfl) (by kernel_rfl)
    exact h
  | false =>
    have p := (pl11 n hn).fit
    rw [beq_eq_false_iff_ne] at hf
    obtain ⟨h1, h2⟩ := id hn
    have pl := (pl11 n hn).low
    by_cases hc : 1 ≤ n
    · have hh : Holds (fun _ => n) [.ge (.a 0) 1] := holds_cons hc holds_nil
      have h := retV hh (rft11 n hn (beq_eq_false_iff_ne.2 hf)) (by kernel_rfl) (by kernel_rfl) (f := 19) (args := [.sx .i64 (.a 0), (.v (.int .i64 (.ofNat 11)))]) (v := .sb (.eq (.shr (.a 0) 11) (.c 0))) (by kernel_rfl) (by kernel_rfl) (by kernel_rfl)
      have e : (false || lowF n 11 == n) = (n.fdiv (2 ^ 11) == 0) := by
        rw [Bool.false_or, Bool.eq_iff_iff, beq_iff_eq, beq_iff_eq, pl, fdivP]
        omega
      rw [e]
      exact h
    · have hh : Holds (fun _ => n) [.le (.a 0) 0] := holds_cons (show n ≤ 0 by omega) holds_nil
      have h := retV hh (rft11 n hn (beq_eq_false_iff_ne.2 hf)) (by kernel_rfl) (by kernel_rfl) (f := 19) (args := [.sx .i64 (.a 0), (.v (.int .i64 (.ofNat 11)))]) (v := .v (.bool false)) (by kernel_rfl) (by kernel_rfl) (by kernel_rfl)
      have e : (false || lowF n 11 == n) = false := by
        rw [Bool.false_or, beq_eq_false_iff_ne]
        intro hl
        rw [pl] at hl
        simp only [Nat.reduceSub] at *
        apply hf
        rw [p]
        omega
      rw [e]
      exact h

theorem rlow12 (n : Int) (hn : In n) : Ret Try.prog 23 [.int .i64 n, .int .i64 (12 : Nat)] (.int .i64 (lowF n 12)) := by
  have h := retV (val := fun _ => n) (F := []) holds_nil tabNil rfl rfl (f := 23) (args := [.sx .i64 (.a 0), (.v (.int .i64 (.ofNat 12)))]) (v := .sx .i64 (chain 12)) (by kernel_rfl) (by kernel_rfl) (by kernel_rfl)
  simp only [concs, conc, chain_eval _ 12 (by omega)] at h
  have e : IntKind.i64.wrap (n % 2 ^ 12) = lowF n 12 := by
    obtain ⟨h1, h2⟩ := hn
    simp only [wrapI, lowF]
    omega
  rw [← e]
  exact h

theorem rlt12 (n : Int) (hn : In n) : TabOK Try.prog (fun j => [n, lowF n 12].getD j 0) sl0 [(23, [.sx .i64 (.a 0), (.v (.int .i64 (.ofNat 12)))], .sx .i64 (.a 1))] := by
  intro x hx
  simp only [List.mem_cons, List.not_mem_nil, or_false] at hx
  subst hx
  exact rlow12 n hn

theorem rsign12 (n : Int) (hn : In n) : Ret Try.prog 21 [.int .i64 n, .int .i64 (12 : Nat)] (.int .i64 (sgnF n 12)) := by
  have hb : (SX.eval (fun j => [n, lowF n 12].getD j 0) (.and .i64 (.shr (.a 1) 11) (.c 1))) = lowF n 12 / 2 ^ 11 % 2 := by
    show IntKind.i64.wrap (BitVec.ofInt IntKind.i64.bits ((lowF n 12).fdiv (2 ^ 11)) &&& BitVec.ofInt IntKind.i64.bits 1).toNat = _
    rw [andOne, fdivP]
  obtain ⟨h1, h2⟩ := id hn
  by_cases hc : lowF n 12 / 2 ^ 11 % 2 = 1
  · have hh : Holds (fun j => [n, lowF n 12].getD j 0) [.is (.and .i64 (.shr (.a 1) 11) (.c 1)) 1] := holds_cons (hb.trans hc) holds_nil
    have h := retV hh (rlt12 n hn) (by kernel_rfl) (by kernel_rfl) (f := 21) (args := [.sx .i64 (.a 0), (.v (.int .i64 (.ofNat 12)))]) (v := .sx .i64 (.wrap .i64 (.sub (.a 1) (.c 4096)))) (by kernel_rfl) (by kernel_rfl) (by kernel_rfl)
    have e : IntKind.i64.wrap (lowF n 12 - 4096) = sgnF n 12 := by
      simp only [wrapI, lowF, sgnF] at hc ⊢
      omega
    rw [← e]
    exact h
  · have hh : Holds (fun j => [n, lowF n 12].getD j 0) [.ne (.and .i64 (.shr (.a 1) 11) (.c 1)) 1] := holds_cons (by show _ ≠ _; rw [hb]; exact hc) holds_nil
    have h := retV hh (rlt12 n hn) (by kernel_rfl) (by kernel_rfl) (f := 21) (args := [.sx .i64 (.a 0), (.v (.int .i64 (.ofNat 12)))]) (v := .sx .i64 (.a 1)) (by kernel_rfl) (by kernel_rfl) (by kernel_rfl)
    have e : lowF n 12 = sgnF n 12 := by
      simp only [lowF, sgnF] at hc ⊢
      omega
    rw [← e]
    exact h

theorem rfits12 (n : Int) (hn : In n) : Ret Try.prog 17 [.int .i64 n, .int .i64 (12 : Nat)] (.bool (sgnF n 12 == n)) := by
  have hb : (SX.eval (fun _ => n) (.shr (.a 0) 11)) = n / 2 ^ 11 := by show n.fdiv (2 ^ 11) = _; rw [fdivP]
  have p := (pl12 n hn).fit
  obtain ⟨h1, h2⟩ := id hn
  by_cases hc : n / 2 ^ 11 = 0
  · have hh : Holds (fun _ => n) [.is (.shr (.a 0) 11) 0] := holds_cons (hb.trans hc) holds_nil
    have h := retV hh tabNil rfl rfl (f := 17) (args := [.sx .i64 (.a 0), (.v (.int .i64 (.ofNat 12)))]) (v := .v (.bool true)) (by kernel_rfl) (by kernel_rfl) (by kernel_rfl)
    have e : (sgnF n 12 == n) = true := by
      rw [beq_iff_eq, p]
      simp only [Nat.reduceSub] at *
      omega
    rw [e]
    exact h
  · have hh : Holds (fun _ => n) [.ne (.shr (.a 0) 11) 0] := holds_cons (by show _ ≠ _; rw [hb]; exact hc) holds_nil
    have h := retV hh tabNil rfl rfl (f := 17) (args := [.sx .i64 (.a 0), (.v (.int .i64 (.ofNat 12)))]) (v := .sb (.eq (.shr (.a 0) 11) (.c (-1)))) (by kernel_rfl) (by kernel_rfl) (by kernel_rfl)
    have e : (sgnF n 12 == n) = (n.fdiv (2 ^ 11) == -1) := by
      rw [Bool.eq_iff_iff, beq_iff_eq, beq_iff_eq, p, fdivP]
      simp only [Nat.reduceSub] at *
      omega
    rw [e]
    exact h

theorem rft12 (n : Int) (hn : In n) {b : Bool} (h : (sgnF n 12 == n) = b) : TabOK Try.prog (fun _ => n) sl0 [(17, [.sx .i64 (.a 0), (.v (.int .i64 (.ofNat 12)))], .v (.bool b))] := by
  intro x hx
  simp only [List.mem_cons, List.not_mem_nil, or_false] at hx
  subst hx
  subst h
  exact rfits12 n hn

theorem rwide12 (n : Int) (hn : In n) : Ret Try.prog 19 [.int .i64 n, .int .i64 (12 : Nat)] (.bool (sgnF n 12 == n || lowF n 12 == n)) := by
  cases hf : (sgnF n 12 == n) with
  | true =>
    have h := retV (val := fun _ => n) (F := []) holds_nil (rft12 n hn hf) (by kernel_rfl) (by kernel_rfl) (f := 19) (args := [.sx .i64 (.a 0), (.v (.int .i64 (.ofNat 12)))]) (v := .v (.bool true)) (by kernel_rfl) (by kernel_rfl) (by kernel_rfl)
    exact h
  | false =>
    have p := (pl12 n hn).fit
    rw [beq_eq_false_iff_ne] at hf
    obtain ⟨h1, h2⟩ := id hn
    have pl := (pl12 n hn).low
    by_cases hc : 1 ≤ n
    · have hh : Holds (fun _ => n) [.ge (.a 0) 1] := holds_cons hc holds_nil
      have h := retV hh (rft12 n hn (beq_eq_false_iff_ne.2 hf)) (by kernel_rfl) (by kernel_rfl) (f := 19) (args := [.sx .i64 (.a 0), (.v (.int .i64 (.ofNat 12)))]) (v := .sb (.eq (.shr (.a 0) 12) (.c 0))) (by kernel_rfl) (by kernel_rfl) (by kernel_rfl)
      have e : (false || lowF n 12 == n) = (n.fdiv (2 ^ 12) == 0) := by
        rw [Bool.false_or, Bool.eq_iff_iff, beq_iff_eq, beq_iff_eq, pl, fdivP]
        omega
      rw [e]
      exact h
    · have hh : Holds (fun _ => n) [.le (.a 0) 0] := holds_cons (show n ≤ 0 by omega) holds_nil
      have h := retV hh (rft12 n hn (beq_eq_false_iff_ne.2 hf)) (by kernel_rfl) (by kernel_rfl) (f := 19) (args := [.sx .i64 (.a 0), (.v (.int .i64 (.ofNat 12)))]) (v := .v (.bool false)) (by kernel_rfl) (by kernel_rfl) (by kernel_rfl)
      have e : (false || lowF n 12 == n) = false := by
        rw [Bool.false_or, beq_eq_false_iff_ne]
        intro hl
        rw [pl] at hl
        simp only [Nat.reduceSub] at *
        apply hf
        rw [p]
        omega
      rw [e]
      exact h

theorem rlow13 (n : Int) (hn : In n) : Ret Try.prog 23 [.int .i64 n, .int .i64 (13 : Nat)] (.int .i64 (lowF n 13)) := by
  have h := retV (val := fun _ => n) (F := []) holds_nil tabNil rfl rfl (f := 23) (args := [.sx .i64 (.a 0), (.v (.int .i64 (.ofNat 13)))]) (v := .sx .i64 (chain 13)) (by kernel_rfl) (by kernel_rfl) (by kernel_rfl)
  simp only [concs, conc, chain_eval _ 13 (by omega)] at h
  have e : IntKind.i64.wrap (n % 2 ^ 13) = lowF n 13 := by
    obtain ⟨h1, h2⟩ := hn
    simp only [wrapI, lowF]
    omega
  rw [← e]
  exact h

theorem rlt13 (n : Int) (hn : In n) : TabOK Try.prog (fun j => [n, lowF n 13].getD j 0) sl0 [(23, [.sx .i64 (.a 0), (.v (.int .i64 (.ofNat 13)))], .sx .i64 (.a 1))] := by
  intro x hx
  simp only [List.mem_cons, List.not_mem_nil, or_false] at hx
  subst hx
  exact rlow13 n hn

theorem rsign13 (n : Int) (hn : In n) : Ret Try.prog 21 [.int .i64 n, .int .i64 (13 : Nat)] (.int .i64 (sgnF n 13)) := by
  have hb : (SX.eval (fun j => [n, lowF n 13].getD j 0) (.and .i64 (.shr (.a 1) 12) (.c 1))) = lowF n 13 / 2 ^ 12 % 2 := by
    show IntKind.i64.wrap (BitVec.ofInt IntKind.i64.bits ((lowF n 13).fdiv (2 ^ 12)) &&& BitVec.ofInt IntKind.i64.bits 1).toNat = _
    rw [andOne, fdivP]
  obtain ⟨h1, h2⟩ := id hn
  by_cases hc : lowF n 13 / 2 ^ 12 % 2 = 1
  · have hh : Holds (fun j => [n, lowF n 13].getD j 0) [.is (.and .i64 (.shr (.a 1) 12) (.c 1)) 1] := holds_cons (hb.trans hc) holds_nil
    have h := retV hh (rlt13 n hn) (by kernel_rfl) (by kernel_rfl) (f := 21) (args := [.sx .i64 (.a 0), (.v (.int .i64 (.ofNat 13)))]) (v := .sx .i64 (.wrap .i64 (.sub (.a 1) (.c 8192)))) (by kernel_rfl) (by kernel_rfl) (by kernel_rfl)
    have e : IntKind.i64.wrap (lowF n 13 - 8192) = sgnF n 13 := by
      simp only [wrapI, lowF, sgnF] at hc ⊢
      omega
    rw [← e]
    exact h
  · have hh : Holds (fun j => [n, lowF n 13].getD j 0) [.ne (.and .i64 (.shr (.a 1) 12) (.c 1)) 1] := holds_cons (by show _ ≠ _; rw [hb]; exact hc) holds_nil
    have h := retV hh (rlt13 n hn) (by kernel_rfl) (by kernel_rfl) (f := 21) (args := [.sx .i64 (.a 0), (.v (.int .i64 (.ofNat 13)))]) (v := .sx .i64 (.a 1)) (by kernel_rfl) (by kernel_rfl) (by kernel_rfl)
    have e : lowF n 13 = sgnF n 13 := by
      simp only [lowF, sgnF] at hc ⊢
      omega
    rw [← e]
    exact h

theorem rfits13 (n : Int) (hn : In n) : Ret Try.prog 17 [.int .i64 n, .int .i64 (13 : Nat)] (.bool (sgnF n 13 == n)) := by
  have hb : (SX.eval (fun _ => n) (.shr (.a 0) 12)) = n / 2 ^ 12 := by show n.fdiv (2 ^ 12) = _; rw [fdivP]
  have p := (pl13 n hn).fit
  obtain ⟨h1, h2⟩ := id hn
  by_cases hc : n / 2 ^ 12 = 0
  · have hh : Holds (fun _ => n) [.is (.shr (.a 0) 12) 0] := holds_cons (hb.trans hc) holds_nil
    have h := retV hh tabNil rfl rfl (f := 17) (args := [.sx .i64 (.a 0), (.v (.int .i64 (.ofNat 13)))]) (v := .v (.bool true)) (by kernel_rfl) (by kernel_rfl) (by kernel_rfl)
    have e : (sgnF n 13 == n) = true := by
      rw [beq_iff_eq, p]
      simp only [Nat.reduceSub] at *
      omega
    rw [e]
    exact h
  · have hh : Holds (fun _ => n) [.ne (.shr (.a 0) 12) 0] := holds_cons (by show _ ≠ _; rw [hb]; exact hc) holds_nil
    have h := retV hh tabNil rfl rfl (f := 17) (args := [.sx .i64 (.a 0), (.v (.int .i64 (.ofNat 13)))]) (v := .sb (.eq (.shr (.a 0) 12) (.c (-1)))) (by kernel_rfl) (by kernel_rfl) (by kernel_rfl)
    have e : (sgnF n 13 == n) = (n.fdiv (2 ^ 12) == -1) := by
      rw [Bool.eq_iff_iff, beq_iff_eq, beq_iff_eq, p, fdivP]
      simp only [Nat.reduceSub] at *
      omega
    rw [e]
    exact h

theorem rft13 (n : Int) (hn : In n) {b : Bool} (h : (sgnF n 13 == n) = b) : TabOK Try.prog (fun _ => n) sl0 [(17, [.sx .i64 (.a 0), (.v (.int .i64 (.ofNat 13)))], .v (.bool b))] := by
  intro x hx
  simp only [List.mem_cons, List.not_mem_nil, or_false] at hx
  subst hx
  subst h
  exact rfits13 n hn

theorem rwide13 (n : Int) (hn : In n) : Ret Try.prog 19 [.int .i64 n, .int .i64 (13 : Nat)] (.bool (sgnF n 13 == n || lowF n 13 == n)) := by
  cases hf : (sgnF n 13 == n) with
  | true =>
    have h := retV (val := fun _ => n) (F := []) holds_nil (rft13 n hn hf) (by kernel_rfl) (by kernel_rfl) (f := 19) (args := [.sx .i64 (.a 0), (.v (.int .i64 (.ofNat 13)))]) (v := .v (.bool true)) (by kernel_rfl) (by kernel_rfl) (by kernel_rfl)
    exact h
  | false =>
    have p := (pl13 n hn).fit
    rw [beq_eq_false_iff_ne] at hf
    obtain ⟨h1, h2⟩ := id hn
    have pl := (pl13 n hn).low
    by_cases hc : 1 ≤ n
    · have hh : Holds (fun _ => n) [.ge (.a 0) 1] := holds_cons hc holds_nil
      have h := retV hh (rft13 n hn (beq_eq_false_iff_ne.2 hf)) (by kernel_rfl) (by kernel_rfl) (f := 19) (args := [.sx .i64 (.a 0), (.v (.int .i64 (.ofNat 13)))]) (v := .sb (.eq (.shr (.a 0) 13) (.c 0))) (by kernel_rfl) (by kernel_rfl) (by kernel_rfl)
      have e : (false || lowF n 13 == n) = (n.fdiv (2 ^ 13) == 0) := by
        rw [Bool.false_or, Bool.eq_iff_iff, beq_iff_eq, beq_iff_eq, pl, fdivP]
        omega
      rw [e]
      exact h
    · have hh : Holds (fun _ => n) [.le (.a 0) 0] := holds_cons (show n ≤ 0 by omega) holds_nil
      have h := retV hh (rft13 n hn (beq_eq_false_iff_ne.2 hf)) (by kernel_rfl) (by kernel_rfl) (f := 19) (args := [.sx .i64 (.a 0), (.v (.int .i64 (.ofNat 13)))]) (v := .v (.bool false)) (by kernel_rfl) (by kernel_rfl) (by kernel_rfl)
      have e : (false || lowF n 13 == n) = false := by
        rw [Bool.false_or, beq_eq_false_iff_ne]
        intro hl
        rw [pl] at hl
        simp only [Nat.reduceSub] at *
        apply hf
        rw [p]
        omega
      rw [e]
      exact h

theorem rlow14 (n : Int) (hn : In n) : Ret Try.prog 23 [.int .i64 n, .int .i64 (14 : Nat)] (.int .i64 (lowF n 14)) := by
  have h := retV (val := fun _ => n) (F := []) holds_nil tabNil rfl rfl (f := 23) (args := [.sx .i64 (.a 0), (.v (.int .i64 (.ofNat 14)))]) (v := .sx .i64 (chain 14)) (by kernel_rfl) (by kernel_rfl) (by kernel_rfl)
  simp only [concs, conc, chain_eval _ 14 (by omega)] at h
  have e : IntKind.i64.wrap (n % 2 ^ 14) = lowF n 14 := by
    obtain ⟨h1, h2⟩ := hn
    simp only [wrapI, lowF]
    omega
  rw [← e]
  exact h

theorem rlt14 (n : Int) (hn : In n) : TabOK Try.prog (fun j => [n, lowF n 14].getD j 0) sl0 [(23, [.sx .i64 (.a 0), (.v (.int .i64 (.ofNat 14)))], .sx .i64 (.a 1))] := by
  intro x hx
  simp only [List.mem_cons, List.not_mem_nil, or_false] at hx
  subst hx
  exact rlow14 n hn

theorem rsign14 (n : Int) (hn : In n) : Ret Try.prog 21 [.int .i64 n, .int .i64 (14 : Nat)] (.int .i64 (sgnF n 14)) := by
  have hb : (SX.eval (fun j => [n, lowF n 14].getD j 0) (.and .i64 (.shr (.a 1) 13) (.c 1))) = lowF n 14 / 2 ^ 13 % 2 := by
    show IntKind.i64.wrap (BitVec.ofInt IntKind.i64.bits ((lowF n 14).fdiv (2 ^ 13)) &&& BitVec.ofInt IntKind.i64.bits 1).toNat = _
    rw [andOne, fdivP]
  obtain ⟨h1, h2⟩ := id hn
  by_cases hc : lowF n 14 / 2 ^ 13 % 2 = 1
  · have hh : Holds (fun j => [n, lowF n 14].getD j 0) [.is (.and .i64 (.shr (.a 1) 13) (.c 1)) 1] := holds_cons (hb.trans hc) holds_nil
    have h := retV hh (rlt14 n hn) (by kernel_rfl) (by kernel_rfl) (f := 21) (args := [.sx .i64 (.a 0), (.v (.int .i64 (.ofNat 14)))]) (v := .sx .i64 (.wrap .i64 (.sub (.a 1) (.c 16384)))) (by kernel_rfl) (by kernel_rfl) (by kernel_rfl)
    have e : IntKind.i64.wrap (lowF n 14 - 16384) = sgnF n 14 := by
      simp only [wrapI, lowF, sgnF] at hc ⊢
      omega
    rw [← e]
    exact h
  · have hh : Holds (fun j => [n, lowF n 14].getD j 0) [.ne (.and .i64 (.shr (.a 1) 13) (.c 1)) 1] := holds_cons (by show _ ≠ _; rw [hb]; exact hc) holds_nil
    have h := retV hh (rlt14 n hn) (by kernel_rfl) (by kernel_rfl) (f := 21) (args := [.sx .i64 (.a 0), (.v (.int .i64 (.ofNat 14)))]) (v := .sx .i64 (.a 1)) (by kernel_rfl) (by kernel_rfl) (by kernel_rfl)
    have e : lowF n 14 = sgnF n 14 := by
      simp only [lowF, sgnF] at hc ⊢
      omega
    rw [← e]
    exact h

theorem rfits14 (n : Int) (hn : In n) : Ret Try.prog 17 [.int .i64 n, .int .i64 (14 : Nat)] (.bool (sgnF n 14 == n)) := by
  have hb : (SX.eval (fun _ => n) (.shr (.a 0) 13)) = n / 2 ^ 13 := by show n.fdiv (2 ^ 13) = _; rw [fdivP]
  have p := (pl14 n hn).fit
  obtain ⟨h1, h2⟩ := id hn
  by_cases hc : n / 2 ^ 13 = 0
  · have hh : Holds (fun _ => n) [.is (.shr (.a 0) 13) 0] := holds_cons (hb.trans hc) holds_nil
    have h := retV hh tabNil rfl rfl (f := 17) (args := [.sx .i64 (.a 0), (.v (.int .i64 (.ofNat 14)))]) (v := .v (.bool true)) (by kernel_rfl) (by kernel_rfl) (by kernel_rfl)
    have e : (sgnF n 14 == n) = true := by
      rw [beq_iff_eq, p]
      simp only [Nat.reduceSub] at *
      omega
    rw [e]
    exact h
  · have hh : Holds (fun _ => n) [.ne (.shr (.a 0) 13) 0] := holds_cons (by show _ ≠ _; rw [hb]; exact hc) holds_nil
    have h := retV hh tabNil rfl rfl (f := 17) (args := [.sx .i64 (.a 0), (.v (.int .i64 (.ofNat 14)))]) (v := .sb (.eq (.shr (.a 0) 13) (.c (-1)))) (by kernel_rfl) (by kernel_rfl) (by kernel_rfl)
    have e : (sgnF n 14 == n) = (n.fdiv (2 ^ 13) == -1) := by
      rw [Bool.eq_iff_iff, beq_iff_eq, beq_iff_eq, p, fdivP]
      simp only [Nat.reduceSub] at *
      omega
    rw [e]
    exact h

theorem rft14 (n : Int) (hn : In n) {b : Bool} (h : (sgnF n 14 == n) = b) : TabOK Try.prog (fun _ => n) sl0 [(17, [.sx .i64 (.a 0), (.v (.int .i64 (.ofNat 14)))], .v (.bool b))] := by
  intro x hx
  simp only [List.mem_cons, List.not_mem_nil, or_false] at hx
  subst hx
  subst h
  exact rfits14 n hn

theorem rwide14 (n : Int) (hn : In n) : Ret Try.prog 19 [.int .i64 n, .int .i64 (14 : Nat)] (.bool (sgnF n 14 == n || lowF n 14 == n)) := by
  cases hf : (sgnF n 14 == n) with
  | true =>
    have h := retV (val := fun _ => n) (F := []) holds_nil (rft14 n hn hf) (by kernel_rfl) (by kernel_rfl) (f := 19) (args := [.sx .i64 (.a 0), (.v (.int .i64 (.ofNat 14)))]) (v := .v (.bool true)) (by kernel_rfl) (by kernel_rfl) (by kernel_rfl)
    exact h
  | false =>
    have p := (pl14 n hn).fit
    rw [beq_eq_false_iff_ne] at hf
    obtain ⟨h1, h2⟩ := id hn
    have pl := (pl14 n hn).low
    by_cases hc : 1 ≤ n
    · have hh : Holds (fun _ => n) [.ge (.a 0) 1] := holds_cons hc holds_nil
      have h := retV hh (rft14 n hn (beq_eq_false_iff_ne.2 hf)) (by kernel_rfl) (by kernel_rfl) (f := 19) (args := [.sx .i64 (.a 0), (.v (.int .i64 (.ofNat 14)))]) (v := .sb (.eq (.shr (.a 0) 14) (.c 0))) (by kernel_rfl) (by kernel_rfl) (by kernel_rfl)
      have e : (false || lowF n 14 == n) = (n.fdiv (2 ^ 14) == 0) := by
        rw [Bool.false_or, Bool.eq_iff_iff, beq_iff_eq, beq_iff_eq, pl, fdivP]
        omega
      rw [e]
      exact h
    · have hh : Holds (fun _ => n) [.le (.a 0) 0] := holds_cons (show n ≤ 0 by omega) holds_nil
      have h := retV hh (rft14 n hn (beq_eq_false_iff_ne.2 hf)) (by kernel_rfl) (by kernel_rfl) (f := 19) (args := [.sx .i64 (.a 0), (.v (.int .i64 (.ofNat 14)))]) (v := .v (.bool false)) (by kernel_rfl) (by kernel_rfl) (by kernel_rfl)
      have e : (false || lowF n 14 == n) = false := by
        rw [Bool.false_or, beq_eq_false_iff_ne]
        intro hl
        rw [pl] at hl
        simp only [Nat.reduceSub] at *
        apply hf
        rw [p]
        omega
      rw [e]
      exact h

theorem rlow15 (n : Int) (hn : In n) : Ret Try.prog 23 [.int .i64 n, .int .i64 (15 : Nat)] (.int .i64 (lowF n 15)) := by
  have h := retV (val := fun _ => n) (F := []) holds_nil tabNil rfl rfl (f := 23) (args := [.sx .i64 (.a 0), (.v (.int .i64 (.ofNat 15)))]) (v := .sx .i64 (chain 15)) (by kernel_rfl) (by kernel_rfl) (by kernel_rfl)
  simp only [concs, conc, chain_eval _ 15 (by omega)] at h
  have e : IntKind.i64.wrap (n % 2 ^ 15) = lowF n 15 := by
    obtain ⟨h1, h2⟩ := hn
    simp only [wrapI, lowF]
    omega
  rw [← e]
  exact h

theorem rlt15 (n : Int) (hn : In n) : TabOK Try.prog (fun j => [n, lowF n 15].getD j 0) sl0 [(23, [.sx .i64 (.a 0), (.v (.int .i64 (.ofNat 15)))], .sx .i64 (.a 1))] := by
  intro x hx
  simp only [List.mem_cons, List.not_mem_nil, or_false] at hx
  subst hx
  exact rlow15 n hn

theorem rsign15 (n : Int) (hn : In n) : Ret Try.prog 21 [.int .i64 n, .int .i64 (15 : Nat)] (.int .i64 (sgnF n 15)) := by
  have hb : (SX.eval (fun j => [n, lowF n 15].getD j 0) (.and .i64 (.shr (.a 1) 14) (.c 1))) = lowF n 15 / 2 ^ 14 % 2 := by
    show IntKind.i64.wrap (BitVec.ofInt IntKind.i64.bits ((lowF n 15).fdiv (2 ^ 14)) &&& BitVec.ofInt IntKind.i64.bits 1).toNat = _
    rw [andOne, fdivP]
  obtain ⟨h1, h2⟩ := id hn
  by_cases hc : lowF n 15 / 2 ^ 14 % 2 = 1
  · have hh : Holds (fun j => [n, lowF n 15].getD j 0) [.is (.and .i64 (.shr (.a 1) 14) (.c 1)) 1] := holds_cons (hb.trans hc) holds_nil
    have h := retV hh (rlt15 n hn) (by kernel_rfl) (by kernel_rfl) (f := 21) (args := [.sx .i64 (.a 0), (.v (.int .i64 (.ofNat 15)))]) (v := .sx .i64 (.wrap .i64 (.sub (.a 1) (.c 32768)))) (by kernel_rfl) (by kernel_rfl) (by kernel_rfl)
    have e : IntKind.i64.wrap (lowF n 15 - 32768) = sgnF n 15 := by
      simp only [wrapI, lowF, sgnF] at hc ⊢
      omega
    rw [← e]
    exact h
  · have hh : Holds (fun j => [n, lowF n 15].getD j 0) [.ne (.and .i64 (.shr (.a 1) 14) (.c 1)) 1] := holds_cons (by show _ ≠ _; rw [hb]; exact hc) holds_nil
    have h := retV hh (rlt15 n hn) (by kernel_rfl) (by kernel_rfl) (f := 21) (args := [.sx .i64 (.a 0), (.v (.int .i64 (.ofNat 15)))]) (v := .sx .i64 (.a 1)) (by kernel_rfl) (by kernel_rfl) (by kernel_rfl)
    have e : lowF n 15 = sgnF n 15 := by
      simp only [lowF, sgnF] at hc ⊢
      omega
    rw [← e]
    exact h

theorem rfits15 (n : Int) (hn : In n) : Ret Try.prog 17 [.int .i64 n, .int .i64 (15 : Nat)] (.bool (sgnF n 15 == n)) := by
  have hb : (SX.eval (fun _ => n) (.shr (.a 0) 14)) = n / 2 ^ 14 := by show n.fdiv (2 ^ 14) = _; rw [fdivP]
  have p := (pl15 n hn).fit
  obtain ⟨h1, h2⟩ := id hn
  by_cases hc : n / 2 ^ 14 = 0
  · have hh : Holds (fun _ => n) [.is (.shr (.a 0) 14) 0] := holds_cons (hb.trans hc) holds_nil
    have h := retV hh tabNil rfl rfl (f := 17) (args := [.sx .i64 (.a 0), (.v (.int .i64 (.ofNat 15)))]) (v := .v (.bool true)) (by kernel_rfl) (by kernel_rfl) (by kernel_rfl)
    have e : (sgnF n 15 == n) = true := by
      rw [beq_iff_eq, p]
      simp only [Nat.reduceSub] at *
      omega
    rw [e]
    exact h
  · have hh : Holds (fun _ => n) [.ne (.shr (.a 0) 14) 0] := holds_cons (by show _ ≠ _; rw [hb]; exact hc) holds_nil
    have h := retV hh tabNil rfl rfl (f := 17) (args := [.sx .i64 (.a 0), (.v (.int .i64 (.ofNat 15)))]) (v := .sb (.eq (.shr (.a 0) 14) (.c (-1)))) (by kernel_rfl) (by kernel_rfl) (by kernel_rfl)
    have e : (sgnF n 15 == n) = (n.fdiv (2 ^ 14) == -1) := by
      rw [Bool.eq_iff_iff, beq_iff_eq, beq_iff_eq, p, fdivP]
      simp only [Nat.reduceSub] at *
      omega
    rw [e]
    exact h

theorem rft15 (n : Int) (hn : In n) {b : Bool} (h : (sgnF n 15 == n) = b) : TabOK Try.prog (fun _ => n) sl0 [(17, [.sx .i64 (.a 0), (.v (.int .i64 (.ofNat 15)))], .v (.bool b))] := by
  intro x hx
  simp only [List.mem_cons, List.not_mem_nil, or_false] at hx
  subst hx
  subst h
  exact rfits15 n hn

theorem rwide15 (n : Int) (hn : In n) : Ret Try.prog 19 [.int .i64 n, .int .i64 (15 : Nat)] (.bool (sgnF n 15 == n || lowF n 15 == n)) := by
  cases hf : (sgnF n 15 == n) with
  | true =>
    have h := retV (val := fun _ => n) (F := []) holds_nil (rft15 n hn hf) (by kernel_rfl) (by kernel_rfl) (f := 19) (args := [.sx .i64 (.a 0), (.v (.int .i64 (.ofNat 15)))]) (v := .v (.bool true)) (by kernel_rfl) (by kernel_rfl) (by kernel_rfl)
    exact h
  | false =>
    have p := (pl15 n hn).fit
    rw [beq_eq_false_iff_ne] at hf
    obtain ⟨h1, h2⟩ := id hn
    have pl := (pl15 n hn).low
    by_cases hc : 1 ≤ n
    · have hh : Holds (fun _ => n) [.ge (.a 0) 1] := holds_cons hc holds_nil
      have h := retV hh (rft15 n hn (beq_eq_false_iff_ne.2 hf)) (by kernel_rfl) (by kernel_rfl) (f := 19) (args := [.sx .i64 (.a 0), (.v (.int .i64 (.ofNat 15)))]) (v := .sb (.eq (.shr (.a 0) 15) (.c 0))) (by kernel_rfl) (by kernel_rfl) (by kernel_rfl)
      have e : (false || lowF n 15 == n) = (n.fdiv (2 ^ 15) == 0) := by
        rw [Bool.false_or, Bool.eq_iff_iff, beq_iff_eq, beq_iff_eq, pl, fdivP]
        omega
      rw [e]
      exact h
    · have hh : Holds (fun _ => n) [.le (.a 0) 0] := holds_cons (show n ≤ 0 by omega) holds_nil
      have h := retV hh (rft15 n hn (beq_eq_false_iff_ne.2 hf)) (by kernel_rfl) (by kernel_rfl) (f := 19) (args := [.sx .i64 (.a 0), (.v (.int .i64 (.ofNat 15)))]) (v := .v (.bool false)) (by kernel_rfl) (by kernel_rfl) (by kernel_rfl)
      have e : (false || lowF n 15 == n) = false := by
        rw [Bool.false_or, beq_eq_false_iff_ne]
        intro hl
        rw [pl] at hl
        simp only [Nat.reduceSub] at *
        apply hf
        rw [p]
        omega
      rw [e]
      exact h

theorem rlow16 (n : Int) (hn : In n) : Ret Try.prog 23 [.int .i64 n, .int .i64 (16 : Nat)] (.int .i64 (lowF n 16)) := by
  have h := retV (val := fun _ => n) (F := []) holds_nil tabNil rfl rfl (f := 23) (args := [.sx .i64 (.a 0), (.v (.int .i64 (.ofNat 16)))]) (v := .sx .i64 (chain 16)) (by kernel_rfl) (by kernel_rfl) (by kernel_rfl)
  simp only [concs, conc, chain_eval _ 16 (by omega)] at h
  have e : IntKind.i64.wrap (n % 2 ^ 16) = lowF n 16 := by
    obtain ⟨h1, h2⟩ := hn
    simp only [wrapI, lowF]
    omega
  rw [← e]
  exact h

theorem rlt16 (n : Int) (hn : In n) : TabOK Try.prog (fun j => [n, lowF n 16].getD j 0) sl0 [(23, [.sx .i64 (.a 0), (.v (.int .i64 (.ofNat 16)))], .sx .i64 (.a 1))] := by
  intro x hx
  simp only [List.mem_cons, List.not_mem_nil, or_false] at hx
  subst hx
  exact rlow16 n hn

theorem rsign16 (n : Int) (hn : In n) : Ret Try.prog 21 [.int .i64 n, .int .i64 (16 : Nat)] (.int .i64 (sgnF n 16)) := by
  have hb : (SX.eval (fun j => [n, lowF n 16].getD j 0) (.and .i64 (.shr (.a 1) 15) (.c 1))) = lowF n 16 / 2 ^ 15 % 2 := by
    show IntKind.i64.wrap (BitVec.ofInt IntKind.i64.bits ((lowF n 16).fdiv (2 ^ 15)) &&& BitVec.ofInt IntKind.i64.bits 1).toNat = _
    rw [andOne, fdivP]
  obtain ⟨h1, h2⟩ := id hn
  by_cases hc : lowF n 16 / 2 ^ 15 % 2 = 1
  · have hh : Holds (fun j => [n, lowF n 16].getD j 0) [.is (.and .i64 (.shr (.a 1) 15) (.c 1)) 1] := holds_cons (hb.trans hc) holds_nil
    have h := retV hh (rlt16 n hn) (by kernel_rfl) (by kernel_rfl) (f := 21) (args := [.sx .i64 (.a 0), (.v (.int .i64 (.ofNat 16)))]) (v := .sx .i64 (.wrap .i64 (.sub (.a 1) (.c 65536)))) (by kernel_rfl) (by kernel_rfl) (by kernel_rfl)
    have e : IntKind.i64.wrap (lowF n 16 - 65536) = sgnF n 16 := by
      simp only [wrapI, lowF, sgnF] at hc ⊢
      omega
    rw [← e]
    exact h
  · have hh : Holds (fun j => [n, lowF n 16].getD j 0) [.ne (.and .i64 (.shr (.a 1) 15) (.c 1)) 1] := holds_cons (by show _ ≠ _; rw [hb]; exact hc) holds_nil
    have h := retV hh (rlt16 n hn) (by kernel_rfl) (by kernel_rfl) (f := 21) (args := [.sx .i64 (.a 0), (.v (.int .i64 (.ofNat 16)))]) (v := .sx .i64 (.a 1)) (by kernel_rfl) (by kernel_rfl) (by kernel_rfl)
    have e : lowF n 16 = sgnF n 16 := by
      simp only [lowF, sgnF] at hc ⊢
      omega
    rw [← e]
    exact h

theorem rfits16 (n : Int) (hn : In n) : Ret Try.prog 17 [.int .i64 n, .int .i64 (16 : Nat)] (.bool (sgnF n 16 == n)) := by
  have hb : (SX.eval (fun _ => n) (.shr (.a 0) 15)) = n / 2 ^ 15 := by show n.fdiv (2 ^ 15) = _; rw [fdivP]
  have p := (pl16 n hn).fit
  obtain ⟨h1, h2⟩ := id hn
  by_cases hc : n / 2 ^ 15 = 0
  · have hh : Holds (fun _ => n) [.is (.shr (.a 0) 15) 0] := holds_cons (hb.trans hc) holds_nil
    have h := retV hh tabNil rfl rfl (f := 17) (args := [.sx .i64 (.a 0), (.v (.int .i64 (.ofNat 16)))]) (v := .v (.bool true)) (by kernel_rfl) (by kernel_rfl) (by kernel_rfl)
    have e : (sgnF n 16 == n) = true := by
      rw [beq_iff_eq, p]
      simp only [Nat.reduceSub] at *
      omega
    rw [e]
    exact h
  · have hh : Holds (fun _ => n) [.ne (.shr (.a 0) 15) 0] := holds_cons (by show _ ≠ _; rw [hb]; exact hc) holds_nil
    have h := retV hh tabNil rfl rfl (f := 17) (args := [.sx .i64 (.a 0), (.v (.int .i64 (.ofNat 16)))]) (v := .sb (.eq (.shr (.a 0) 15) (.c (-1)))) (by kernel_rfl) (by kernel_rfl) (by kernel_rfl)
    have e : (sgnF n 16 == n) = (n.fdiv (2 ^ 15) == -1) := by
      rw [Bool.eq_iff_iff, beq_iff_eq, beq_iff_eq, p, fdivP]
      simp only [Nat.reduceSub] at *
      omega
    rw [e]
    exact h

theorem rft16 (n : Int) (hn : In n) {b : Bool} (h : (sgnF n 16 == n) = b) : TabOK Try.prog (fun _ => n) sl0 [(17, [.sx .i64 (.a 0), (.v (.int .i64 (.ofNat 16)))], .v (.bool b))] := by
  intro x hx
  simp only [List.mem_cons, List.not_mem_nil, or_false] at hx
  subst hx
  subst h
  exact rfits16 n hn

theorem rwide16 (n : Int) (hn : In n) : Ret Try.prog 19 [.int .i64 n, .int .i64 (16 : Nat)] (.bool (sgnF n 16 == n || lowF n 16 == n)) := by
  cases hf : (sgnF n 16 == n) with
  | true =>
    have h := retV (val := fun _ => n) (F := []) holds_nil (rft16 n hn hf) (by kernel_rfl) (by kernel_rfl) (f := 19) (args := [.sx .i64 (.a 0), (.v (.int .i64 (.ofNat 16)))]) (v := .v (.bool true)) (by kernel_rfl) (by kernel_rfl) (by kernel_rfl)
    exact h
  | false =>
    have p := (pl16 n hn).fit
    rw [beq_eq_false_iff_ne] at hf
    obtain ⟨h1, h2⟩ := id hn
    have pl := (pl16 n hn).low
    by_cases hc : 1 ≤ n
    · have hh : Holds (fun _ => n) [.ge (.a 0) 1] := holds_cons hc holds_nil
      have h := retV hh (rft16 n hn (beq_eq_false_iff_ne.2 hf)) (by kernel_rfl) (by kernel_rfl) (f := 19) (args := [.sx .i64 (.a 0), (.v (.int .i64 (.ofNat 16)))]) (v := .sb (.eq (.shr (.a 0) 16) (.c 0))) (by kernel_rfl) (by kernel_rfl) (by kernel_rfl)
      have e : (false || lowF n 16 == n) = (n.fdiv (2 ^ 16) == 0) := by
        rw [Bool.false_or, Bool.eq_iff_iff, beq_iff_eq, beq_iff_eq, pl, fdivP]
        omega
      rw [e]
      exact h
    · have hh : Holds (fun _ => n) [.le (.a 0) 0] := holds_cons (show n ≤ 0 by omega) holds_nil
      have h := retV hh (rft16 n hn (beq_eq_false_iff_ne.2 hf)) (by kernel_rfl) (by kernel_rfl) (f := 19) (args := [.sx .i64 (.a 0), (.v (.int .i64 (.ofNat 16)))]) (v := .v (.bool false)) (by kernel_rfl) (by kernel_rfl) (by kernel_rfl)
      have e : (false || lowF n 16 == n) = false := by
        rw [Bool.false_or, beq_eq_false_iff_ne]
        intro hl
        rw [pl] at hl
        simp only [Nat.reduceSub] at *
        apply hf
        rw [p]
        omega
      rw [e]
      exact h

end Go.Proofs.Ytclgmeoofmidfaa.Fld
