/-
  What the document's Low, Sign, Fits and Wide do, by widths.
-/
import Derived.Test.YtclgmeoofmidfaaFldQ
import Derived.Test.YtclgmeoofmidfaaFldP
namespace Go.Proofs.Ytclgmeoofmidfaa.Fld
open Go.Sim
set_option maxRecDepth 100000

theorem rlow17 (n : Int) (hn : In n) : Ret Try.prog 23 [.int .i64 n, .int .i64 (17 : Nat)] (.int .i64 (lowF n 17)) := by
  have h := retV (val := fun _ => n) (F := []) holds_nil tabNil rfl rfl (f := 23) (args := [.sx .i64 (.a 0), (.v (.int .i64 (.ofNat 17)))]) (v := .sx .i64 (chain 17)) (by kernel_rfl) (by kernel_rfl) (by kernel_rfl)
  simp only [concs, conc, chain_eval _ 17 (by omega)] at h
  have e : IntKind.i64.wrap (n % 2 ^ 17) = lowF n 17 := by
    obtain ⟨h1, h2⟩ := hn
    simp only [wrapI, lowF]
    omega
  rw [← e]
  exact h

theorem rlt17 (n : Int) (hn : In n) : TabOK Try.prog (fun j => [n, lowF n 17].getD j 0) sl0 [(23, [.sx .i64 (.a 0), (.v (.int .i64 (.ofNat 17)))], .sx .i64 (.a 1))] := by
  intro x hx
  simp only [List.mem_cons, List.not_mem_nil, or_false] at hx
  subst hx
  exact rlow17 n hn

theorem rsign17 (n : Int) (hn : In n) : Ret Try.prog 21 [.int .i64 n, .int .i64 (17 : Nat)] (.int .i64 (sgnF n 17)) := by
  have hb : (SX.eval (fun j => [n, lowF n 17].getD j 0) (.and .i64 (.shr (.a 1) 16) (.c 1))) = lowF n 17 / 2 ^ 16 % 2 := by
    show IntKind.i64.wrap (BitVec.ofInt IntKind.i64.bits ((lowF n 17).fdiv (2 ^ 16)) &&& BitVec.ofInt IntKind.i64.bits 1).toNat = _
    rw [andOne, fdivP]
  obtain ⟨h1, h2⟩ := id hn
  by_cases hc : lowF n 17 / 2 ^ 16 % 2 = 1
  · have hh : Holds (fun j => [n, lowF n 17].getD j 0) [.is (.and .i64 (.shr (.a 1) 16) (.c 1)) 1] := holds_cons (hb.trans hc) holds_nil
    have h := retV hh (rlt17 n hn) (by kernel_rfl) (by kernel_rfl) (f := 21) (args := [.sx .i64 (.a 0), (.v (.int .i64 (.ofNat 17)))]) (v := .sx .i64 (.wrap .i64 (.sub (.a 1) (.c 131072)))) (by kernel_rfl) (by kernel_rfl) (by kernel_rfl)
    have e : IntKind.i64.wrap (lowF n 17 - 131072) = sgnF n 17 := by
      simp only [wrapI, lowF, sgnF] at hc ⊢
      omega
    rw [← e]
    exact h
  · have hh : Holds (fun j => [n, lowF n 17].getD j 0) [.ne (.and .i64 (.shr (.a 1) 16) (.c 1)) 1] := holds_cons (by show _ ≠ _; rw [hb]; exact hc) holds_nil
    have h := retV hh (rlt17 n hn) (by kernel_rfl) (by kernel_rfl) (f := 21) (args := [.sx .i64 (.a 0), (.v (.int .i64 (.ofNat 17)))]) (v := .sx .i64 (.a 1)) (by kernel_rfl) (by kernel_rfl) (by kernel_rfl)
    have e : lowF n 17 = sgnF n 17 := by
      simp only [lowF, sgnF] at hc ⊢
      omega
    rw [← e]
    exact h

theorem rfits17 (n : Int) (hn : In n) : Ret Try.prog 17 [.int .i64 n, .int .i64 (17 : Nat)] (.bool (sgnF n 17 == n)) := by
  have hb : (SX.eval (fun _ => n) (.shr (.a 0) 16)) = n / 2 ^ 16 := by show n.fdiv (2 ^ 16) = _; rw [fdivP]
  have p := (pl17 n hn).fit
  obtain ⟨h1, h2⟩ := id hn
  by_cases hc : n / 2 ^ 16 = 0
  · have hh : Holds (fun _ => n) [.is (.shr (.a 0) 16) 0] := holds_cons (hb.trans hc) holds_nil
    have h := retV hh tabNil rfl rfl (f := 17) (args := [.sx .i64 (.a 0), (.v (.int .i64 (.ofNat 17)))]) (v := .v (.bool true)) (by kernel_rfl) (by kernel_rfl) (by kernel_rfl)
    have e : (sgnF n 17 == n) = true := by
      rw [beq_iff_eq, p]
      simp only [Nat.reduceSub] at *
      omega
    rw [e]
    exact h
  · have hh : Holds (fun _ => n) [.ne (.shr (.a 0) 16) 0] := holds_cons (by show _ ≠ _; rw [hb]; exact hc) holds_nil
    have h := retV hh tabNil rfl rfl (f := 17) (args := [.sx .i64 (.a 0), (.v (.int .i64 (.ofNat 17)))]) (v := .sb (.eq (.shr (.a 0) 16) (.c (-1)))) (by kernel_rfl) (by kernel_rfl) (by kernel_rfl)
    have e : (sgnF n 17 == n) = (n.fdiv (2 ^ 16) == -1) := by
      rw [Bool.eq_iff_iff, beq_iff_eq, beq_iff_eq, p, fdivP]
      simp only [Nat.reduceSub] at *
      omega
    rw [e]
    exact h

theorem rft17 (n : Int) (hn : In n) {b : Bool} (h : (sgnF n 17 == n) = b) : TabOK Try.prog (fun _ => n) sl0 [(17, [.sx .i64 (.a 0), (.v (.int .i64 (.ofNat 17)))], .v (.bool b))] := by
  intro x hx
  simp only [List.mem_cons, List.not_mem_nil, or_false] at hx
  subst hx
  subst h
  exact rfits17 n hn

theorem rwide17 (n : Int) (hn : In n) : Ret Try.prog 19 [.int .i64 n, .int .i64 (17 : Nat)] (.bool (sgnF n 17 == n || lowF n 17 == n)) := by
  cases hf : (sgnF n 17 == n) with
  | true =>
    have h := retV (val := fun _ => n) (F := []) holds_nil (rft17 n hn hf) (by kernel_rfl) (by kernel_rfl) (f := 19) (args := [.sx .i64 (.a 0), (.v (.int .i64 (.ofNat 17)))]) (v := .v (.bool true)) (by kernel_rfl) (by kernel_rfl) (by kernel_rfl)
    exact h
  | false =>
    have p := (pl17 n hn).fit
    rw [beq_eq_false_iff_ne] at hf
    obtain ⟨h1, h2⟩ := id hn
    have pl := (pl17 n hn).low
    by_cases hc : 1 ≤ n
    · have hh : Holds (fun _ => n) [.ge (.a 0) 1] := holds_cons hc holds_nil
      have h := retV hh (rft17 n hn (beq_eq_false_iff_ne.2 hf)) (by kernel_rfl) (by kernel_rfl) (f := 19) (args := [.sx .i64 (.a 0), (.v (.int .i64 (.ofNat 17)))]) (v := .sb (.eq (.shr (.a 0) 17) (.c 0))) (by kernel_rfl) (by kernel_rfl) (by kernel_rfl)
      have e : (false || lowF n 17 == n) = (n.fdiv (2 ^ 17) == 0) := by
        rw [Bool.false_or, Bool.eq_iff_iff, beq_iff_eq, beq_iff_eq, pl, fdivP]
        omega
      rw [e]
      exact h
    · have hh : Holds (fun _ => n) [.le (.a 0) 0] := holds_cons (show n ≤ 0 by omega) holds_nil
      have h := retV hh (rft17 n hn (beq_eq_false_iff_ne.2 hf)) (by kernel_rfl) (by kernel_rfl) (f := 19) (args := [.sx .i64 (.a 0), (.v (.int .i64 (.ofNat 17)))]) (v := .v (.bool false)) (by kernel_rfl) (by kernel_rfl) (by kernel_rfl)
      have e : (false || lowF n 17 == n) = false := by
        rw [Bool.false_or, beq_eq_false_iff_ne]
        intro hl
        rw [pl] at hl
        simp only [Nat.reduceSub] at *
        apply hf
        rw [p]
        omega
      rw [e]
      exact h

theorem rlow18 (n : Int) (hn : In n) : Ret Try.prog 23 [.int .i64 n, .int .i64 (18 : Nat)] (.int .i64 (lowF n 18)) := by
  have h := retV (val := fun _ => n) (F := []) holds_nil tabNil rfl rfl (f := 23) (args := [.sx .i64 (.a 0), (.v (.int .i64 (.ofNat 18)))]) (v := .sx .i64 (chain 18)) (by kernel_rfl) (by kernel_rfl) (by kernel_rfl)
  simp only [concs, conc, chain_eval _ 18 (by omega)] at h
  have e : IntKind.i64.wrap (n % 2 ^ 18) = lowF n 18 := by
    obtain ⟨h1, h2⟩ := hn
    simp only [wrapI, lowF]
    omega
  rw [← e]
  exact h

theorem rlt18 (n : Int) (hn : In n) : TabOK Try.prog (fun j => [n, lowF n 18].getD j 0) sl0 [(23, [.sx .i64 (.a 0), (.v (.int .i64 (.ofNat 18)))], .sx .i64 (.a 1))] := by
  intro x hx
  simp only [List.mem_cons, List.not_mem_nil, or_false] at hx
  subst hx
  exact rlow18 n hn

theorem rsign18 (n : Int) (hn : In n) : Ret Try.prog 21 [.int .i64 n, .int .i64 (18 : Nat)] (.int .i64 (sgnF n 18)) := by
  have hb : (SX.eval (fun j => [n, lowF n 18].getD j 0) (.and .i64 (.shr (.a 1) 17) (.c 1))) = lowF n 18 / 2 ^ 17 % 2 := by
    show IntKind.i64.wrap (BitVec.ofInt IntKind.i64.bits ((lowF n 18).fdiv (2 ^ 17)) &&& BitVec.ofInt IntKind.i64.bits 1).toNat = _
    rw [andOne, fdivP]
  obtain ⟨h1, h2⟩ := id hn
  by_cases hc : lowF n 18 / 2 ^ 17 % 2 = 1
  · have hh : Holds (fun j => [n, lowF n 18].getD j 0) [.is (.and .i64 (.shr (.a 1) 17) (.c 1)) 1] := holds_cons (hb.trans hc) holds_nil
    have h := retV hh (rlt18 n hn) (by kernel_rfl) (by kernel_rfl) (f := 21) (args := [.sx .i64 (.a 0), (.v (.int .i64 (.ofNat 18)))]) (v := .sx .i64 (.wrap .i64 (.sub (.a 1) (.c 262144)))) (by kernel_rfl) (by kernel_rfl) (by kernel_rfl)
    have e : IntKind.i64.wrap (lowF n 18 - 262144) = sgnF n 18 := by
      simp only [wrapI, lowF, sgnF] at hc ⊢
      omega
    rw [← e]
    exact h
  · have hh : Holds (fun j => [n, lowF n 18].getD j 0) [.ne (.and .i64 (.shr (.a 1) 17) (.c 1)) 1] := holds_cons (by show _ ≠ _; rw [hb]; exact hc) holds_nil
    have h := retV hh (rlt18 n hn) (by kernel_rfl) (by kernel_rfl) (f := 21) (args := [.sx .i64 (.a 0), (.v (.int .i64 (.ofNat 18)))]) (v := .sx .i64 (.a 1)) (by kernel_rfl) (by kernel_rfl) (by kernel_rfl)
    have e : lowF n 18 = sgnF n 18 := by
      simp only [lowF, sgnF] at hc ⊢
      omega
    rw [← e]
    exact h

theorem rfits18 (n : Int) (hn : In n) : Ret Try.prog 17 [.int .i64 n, .int .i64 (18 : Nat)] (.bool (sgnF n 18 == n)) := by
  have hb : (SX.eval (fun _ => n) (.shr (.a 0) 17)) = n / 2 ^ 17 := by show n.fdiv (2 ^ 17) = _; rw [fdivP]
  have p := (pl18 n hn).fit
  obtain ⟨h1, h2⟩ := id hn
  by_cases hc : n / 2 ^ 17 = 0
  · have hh : Holds (fun _ => n) [.is (.shr (.a 0) 17) 0] := holds_cons (hb.trans hc) holds_nil
    have h := retV hh tabNil rfl rfl (f := 17) (args := [.sx .i64 (.a 0), (.v (.int .i64 (.ofNat 18)))]) (v := .v (.bool true)) (by kernel_rfl) (by kernel_rfl) (by kernel_rfl)
    have e : (sgnF n 18 == n) = true := by
      rw [beq_iff_eq, p]
      simp only [Nat.reduceSub] at *
      omega
    rw [e]
    exact h
  · have hh : Holds (fun _ => n) [.ne (.shr (.a 0) 17) 0] := holds_cons (by show _ ≠ _; rw [hb]; exact hc) holds_nil
    have h := retV hh tabNil rfl rfl (f := 17) (args := [.sx .i64 (.a 0), (.v (.int .i64 (.ofNat 18)))]) (v := .sb (.eq (.shr (.a 0) 17) (.c (-1)))) (by kernel_rfl) (by kernel_rfl) (by kernel_rfl)
    have e : (sgnF n 18 == n) = (n.fdiv (2 ^ 17) == -1) := by
      rw [Bool.eq_iff_iff, beq_iff_eq, beq_iff_eq, p, fdivP]
      simp only [Nat.reduceSub] at *
      omega
    rw [e]
    exact h

theorem rft18 (n : Int) (hn : In n) {b : Bool} (h : (sgnF n 18 == n) = b) : TabOK Try.prog (fun _ => n) sl0 [(17, [.sx .i64 (.a 0), (.v (.int .i64 (.ofNat 18)))], .v (.bool b))] := by
  intro x hx
  simp only [List.mem_cons, List.not_mem_nil, or_false] at hx
  subst hx
  subst h
  exact rfits18 n hn

theorem rwide18 (n : Int) (hn : In n) : Ret Try.prog 19 [.int .i64 n, .int .i64 (18 : Nat)] (.bool (sgnF n 18 == n || lowF n 18 == n)) := by
  cases hf : (sgnF n 18 == n) with
  | true =>
    have h := retV (val := fun _ => n) (F := []) holds_nil (rft18 n hn hf) (by kernel_rfl) (by kernel_rfl) (f := 19) (args := [.sx .i64 (.a 0), (.v (.int .i64 (.ofNat 18)))]) (v := .v (.bool true)) (by kernel_rfl) (by kernel_rfl) (by kernel_rfl)
    exact h
  | false =>
    have p := (pl18 n hn).fit
    rw [beq_eq_false_iff_ne] at hf
    obtain ⟨h1, h2⟩ := id hn
    have pl := (pl18 n hn).low
    by_cases hc : 1 ≤ n
    · have hh : Holds (fun _ => n) [.ge (.a 0) 1] := holds_cons hc holds_nil
      have h := retV hh (rft18 n hn (beq_eq_false_iff_ne.2 hf)) (by kernel_rfl) (by kernel_rfl) (f := 19) (args := [.sx .i64 (.a 0), (.v (.int .i64 (.ofNat 18)))]) (v := .sb (.eq (.shr (.a 0) 18) (.c 0))) (by kernel_rfl) (by kernel_rfl) (by kernel_rfl)
      have e : (false || lowF n 18 == n) = (n.fdiv (2 ^ 18) == 0) := by
        rw [Bool.false_or, Bool.eq_iff_iff, beq_iff_eq, beq_iff_eq, pl, fdivP]
        omega
      rw [e]
      exact h
    · have hh : Holds (fun _ => n) [.le (.a 0) 0] := holds_cons (show n ≤ 0 by omega) holds_nil
      have h := retV hh (rft18 n hn (beq_eq_false_iff_ne.2 hf)) (by kernel_rfl) (by kernel_rfl) (f := 19) (args := [.sx .i64 (.a 0), (.v (.int .i64 (.ofNat 18)))]) (v := .v (.bool false)) (by kernel_rfl) (by kernel_rfl) (by kernel_rfl)
      have e : (false || lowF n 18 == n) = false := by
        rw [Bool.false_or, beq_eq_false_iff_ne]
        intro hl
        rw [pl] at hl
        simp only [Nat.reduceSub] at *
        apply hf
        rw [p]
        omega
      rw [e]
      exact h

theorem rlow19 (n : Int) (hn : In n) : Ret Try.prog 23 [.int .i64 n, .int .i64 (19 : Nat)] (.int .i64 (lowF n 19)) := by
  have h := retV (val := fun _ => n) (F := []) holds_nil tabNil rfl rfl (f := 23) (args := [.sx .i64 (.a 0), (.v (.int .i64 (.ofNat 19)))]) (v := .sx .i64 (chain 19)) (by kernel_rfl) (by kernel_rfl) (by kernel_rfl)
  simp only [concs, conc, chain_eval _ 19 (by omega)] at h
  have e : IntKind.i64.wrap (n % 2 ^ 19) = lowF n 19 := by
    obtain ⟨h1, h2⟩ := hn
    simp only [wrapI, lowF]
    omega
  rw [← e]
  exact h

theorem rlt19 (n : Int) (hn : In n) : TabOK Try.prog (fun j => [n, lowF n 19].getD j 0) sl0 [(23, [.sx .i64 (.a 0), (.v (.int .i64 (.ofNat 19)))], .sx .i64 (.a 1))] := by
  intro x hx
  simp only [List.mem_cons, List.not_mem_nil, or_false] at hx
  subst hx
  exact rlow19 n hn

theorem rsign19 (n : Int) (hn : In n) : Ret Try.prog 21 [.int .i64 n, .int .i64 (19 : Nat)] (.int .i64 (sgnF n 19)) := by
  have hb : (SX.eval (fun j => [n, lowF n 19].getD j 0) (.and .i64 (.shr (.a 1) 18) (.c 1))) = lowF n 19 / 2 ^ 18 % 2 := by
    show IntKind.i64.wrap (BitVec.ofInt IntKind.i64.bits ((lowF n 19).fdiv (2 ^ 18)) &&& BitVec.ofInt IntKind.i64.bits 1).toNat = _
    rw [andOne, fdivP]
  obtain ⟨h1, h2⟩ := id hn
  by_cases hc : lowF n 19 / 2 ^ 18 % 2 = 1
  · have hh : Holds (fun j => [n, lowF n 19].getD j 0) [.is (.and .i64 (.shr (.a 1) 18) (.c 1)) 1] := holds_cons (hb.trans hc) holds_nil
    have h := retV hh (rlt19 n hn) (by kernel_rfl) (by kernel_rfl) (f := 21) (args := [.sx .i64 (.a 0), (.v (.int .i64 (.ofNat 19)))]) (v := .sx .i64 (.wrap .i64 (.sub (.a 1) (.c 524288)))) (by kernel_rfl) (by kernel_rfl) (by kernel_rfl)
    have e : IntKind.i64.wrap (lowF n 19 - 524288) = sgnF n 19 := by
      simp only [wrapI, lowF, sgnF] at hc ⊢
      omega
    rw [← e]
    exact h
  · have hh : Holds (fun j => [n, lowF n 19].getD j 0) [.ne (.and .i64 (.shr (.a 1) 18) (.c 1)) 1] := holds_cons (by show _ ≠ _; rw [hb]; exact hc) holds_nil
    have h := retV hh (rlt19 n hn) (by kernel_rfl) (by kernel_rfl) (f := 21) (args := [.sx .i64 (.a 0), (.v (.int .i64 (.ofNat 19)))]) (v := .sx .i64 (.a 1)) (by kernel_rfl) (by kernel_rfl) (by kernel_rfl)
    have e : lowF n 19 = sgnF n 19 := by
      simp only [lowF, sgnF] at hc ⊢
      omega
    rw [← e]
    exact h

theorem rfits19 (n : Int) (hn : In n) : Ret Try.prog 17 [.int .i64 n, .int .i64 (19 : Nat)] (.bool (sgnF n 19 == n)) := by
  have hb : (SX.eval (fun _ => n) (.shr (.a 0) 18)) = n / 2 ^ 18 := by show n.fdiv (2 ^ 18) = _; rw [fdivP]
  have p := (pl19 n hn).fit
  obtain ⟨h1, h2⟩ := id hn
  by_cases hc : n / 2 ^ 18 = 0
  · have hh : Holds (fun _ => n) [.is (.shr (.a 0) 18) 0] := holds_cons (hb.trans hc) holds_nil
    have h := retV hh tabNil rfl rfl (f := 17) (args := [.sx .i64 (.a 0), (.v (.int .i64 (.ofNat 19)))]) (v := .v (.bool true)) (by kernel_rfl) (by kernel_rfl) (by kernel_rfl)
    have e : (sgnF n 19 == n) = true := by
      rw [beq_iff_eq, p]
      simp only [Nat.reduceSub] at *
      omega
    rw [e]
    exact h
  · have hh : Holds (fun _ => n) [.ne (.shr (.a 0) 18) 0] := holds_cons (by show _ ≠ _; rw [hb]; exact hc) holds_nil
    have h := retV hh tabNil rfl rfl (f := 17) (args := [.sx .i64 (.a 0), (.v (.int .i64 (.ofNat 19)))]) (v := .sb (.eq (.shr (.a 0) 18) (.c (-1)))) (by kernel_rfl) (by kernel_rfl) (by kernel_rfl)
    have e : (sgnF n 19 == n) = (n.fdiv (2 ^ 18) == -1) := by
      rw [Bool.eq_iff_iff, beq_iff_eq, beq_iff_eq, p, fdivP]
      simp only [Nat.reduceSub] at *
      omega
    rw [e]
    exact h

theorem rft19 (n : Int) (hn : In n) {b : Bool} (h : (sgnF n 19 == n) = b) : TabOK Try.prog (fun _ => n) sl0 [(17, [.sx .i64 (.a 0), (.v (.int .i64 (.ofNat 19)))], .v (.bool b))] := by
  intro x hx
  simp only [List.mem_cons, List.not_mem_nil, or_false] at hx
  subst hx
  subst h
  exact rfits19 n hn

theorem rwide19 (n : Int) (hn : In n) : Ret Try.prog 19 [.int .i64 n, .int .i64 (19 : Nat)] (.bool (sgnF n 19 == n || lowF n 19 == n)) := by
  cases hf : (sgnF n 19 == n) with
  | true =>
    have h := retV (val := fun _ => n) (F := []) holds_nil (rft19 n hn hf) (by kernel_rfl) (by kernel_rfl) (f := 19) (args := [.sx .i64 (.a 0), (.v (.int .i64 (.ofNat 19)))]) (v := .v (.bool true)) (by kernel_rfl) (by kernel_rfl) (by kernel_rfl)
    exact h
  | false =>
    have p := (pl19 n hn).fit
    rw [beq_eq_false_iff_ne] at hf
    obtain ⟨h1, h2⟩ := id hn
    have pl := (pl19 n hn).low
    by_cases hc : 1 ≤ n
    · have hh : Holds (fun _ => n) [.ge (.a 0) 1] := holds_cons hc holds_nil
      have h := retV hh (rft19 n hn (beq_eq_false_iff_ne.2 hf)) (by kernel_rfl) (by kernel_rfl) (f := 19) (args := [.sx .i64 (.a 0), (.v (.int .i64 (.ofNat 19)))]) (v := .sb (.eq (.shr (.a 0) 19) (.c 0))) (by kernel_rfl) (by kernel_rfl) (by kernel_rfl)
      have e : (false || lowF n 19 == n) = (n.fdiv (2 ^ 19) == 0) := by
        rw [Bool.false_or, Bool.eq_iff_iff, beq_iff_eq, beq_iff_eq, pl, fdivP]
        omega
      rw [e]
      exact h
    · have hh : Holds (fun _ => n) [.le (.a 0) 0] := holds_cons (show n ≤ 0 by omega) holds_nil
      have h := retV hh (rft19 n hn (beq_eq_false_iff_ne.2 hf)) (by kernel_rfl) (by kernel_rfl) (f := 19) (args := [.sx .i64 (.a 0), (.v (.int .i64 (.ofNat 19)))]) (v := .v (.bool false)) (by kernel_rfl) (by kernel_rfl) (by kernel_rfl)
      have e : (false || lowF n 19 == n) = false := by
        rw [Bool.false_or, beq_eq_false_iff_ne]
        intro hl
        rw [pl] at hl
        simp only [Nat.reduceSub] at *
        apply hf
        rw [p]
        omega
      rw [e]
      exact h

theorem rlow20 (n : Int) (hn : In n) : Ret Try.prog 23 [.int .i64 n, .int .i64 (20 : Nat)] (.int .i64 (lowF n 20)) := by
  have h := retV (val := fun _ => n) (F := []) holds_nil tabNil rfl rfl (f := 23) (args := [.sx .i64 (.a 0), (.v (.int .i64 (.ofNat 20)))]) (v := .sx .i64 (chain 20)) (by kernel_rfl) (by kernel_rfl) (by kernel_rfl)
  simp only [concs, conc, chain_eval _ 20 (by omega)] at h
  have e : IntKind.i64.wrap (n % 2 ^ 20) = lowF n 20 := by
    obtain ⟨h1, h2⟩ := hn
    simp only [wrapI, lowF]
    omega
  rw [← e]
  exact h

theorem rlt20 (n : Int) (hn : In n) : TabOK Try.prog (fun j => [n, lowF n 20].getD j 0) sl0 [(23, [.sx .i64 (.a 0), (.v (.int .i64 (.ofNat 20)))], .sx .i64 (.a 1))] := by
  intro x hx
  simp only [List.mem_cons, List.not_mem_nil, or_false] at hx
  subst hx
  exact rlow20 n hn

theorem rsign20 (n : Int) (hn : In n) : Ret Try.prog 21 [.int .i64 n, .int .i64 (20 : Nat)] (.int .i64 (sgnF n 20)) := by
  have hb : (SX.eval (fun j => [n, lowF n 20].getD j 0) (.and .i64 (.shr (.a 1) 19) (.c 1))) = lowF n 20 / 2 ^ 19 % 2 := by
    show IntKind.i64.wrap (BitVec.ofInt IntKind.i64.bits ((lowF n 20).fdiv (2 ^ 19)) &&& BitVec.ofInt IntKind.i64.bits 1).toNat = _
    rw [andOne, fdivP]
  obtain ⟨h1, h2⟩ := id hn
  by_cases hc : lowF n 20 / 2 ^ 19 % 2 = 1
  · have hh : Holds (fun j => [n, lowF n 20].getD j 0) [.is (.and .i64 (.shr (.a 1) 19) (.c 1)) 1] := holds_cons (hb.trans hc) holds_nil
    have h := retV hh (rlt20 n hn) (by kernel_rfl) (by kernel_rfl) (f := 21) (args := [.sx .i64 (.a 0), (.v (.int .i64 (.ofNat 20)))]) (v := .sx .i64 (.wrap .i64 (.sub (.a 1) (.c 1048576)))) (by kernel_rfl) (by kernel_rfl) (by kernel_rfl)
    have e : IntKind.i64.wrap (lowF n 20 - 1048576) = sgnF n 20 := by
      simp only [wrapI, lowF, sgnF] at hc ⊢
      omega
    rw [← e]
    exact h
  · have hh : Holds (fun j => [n, lowF n 20].getD j 0) [.ne (.and .i64 (.shr (.a 1) 19) (.c 1)) 1] := holds_cons (by show _ ≠ _; rw [hb]; exact hc) holds_nil
    have h := retV hh (rlt20 n hn) (by kernel_rfl) (by kernel_rfl) (f := 21) (args := [.sx .i64 (.a 0), (.v (.int .i64 (.ofNat 20)))]) (v := .sx .i64 (.a 1)) (by kernel_rfl) (by kernel_rfl) (by kernel_rfl)
    have e : lowF n 20 = sgnF n 20 := by
      simp only [lowF, sgnF] at hc ⊢
      omega
    rw [← e]
    exact h

theorem rfits20 (n : Int) (hn : In n) : Ret Try.prog 17 [.int .i64 n, .int .i64 (20 : Nat)] (.bool (sgnF n 20 == n)) := by
  have hb : (SX.eval (fun _ => n) (.shr (.a 0) 19)) = n / 2 ^ 19 := by show n.fdiv (2 ^ 19) = _; rw [fdivP]
  have p := (pl20 n hn).fit
  obtain ⟨h1, h2⟩ := id hn
  by_cases hc : n / 2 ^ 19 = 0
  · have hh : Holds (fun _ => n) [.is (.shr (.a 0) 19) 0] := holds_cons (hb.trans hc) holds_nil
    have h := retV hh tabNil rfl rfl (f := 17) (args := [.sx .i64 (.a 0), (.v (.int .i64 (.ofNat 20)))]) (v := .v (.bool true)) (by kernel_rfl) (by kernel_rfl) (by kernel_rfl)
    have e : (sgnF n 20 == n) = true := by
      rw [beq_iff_eq, p]
      simp only [Nat.reduceSub] at *
      omega
    rw [e]
    exact h
  · have hh : Holds (fun _ => n) [.ne (.shr (.a 0) 19) 0] := holds_cons (by show _ ≠ _; rw [hb]; exact hc) holds_nil
    have h := retV hh tabNil rfl rfl (f := 17) (args := [.sx .i64 (.a 0), (.v (.int .i64 (.ofNat 20)))]) (v := .sb (.eq (.shr (.a 0) 19) (.c (-1)))) (by kernel_rfl) (by kernel_rfl) (by kernel_rfl)
    have e : (sgnF n 20 == n) = (n.fdiv (2 ^ 19) == -1) := by
      rw [Bool.eq_iff_iff, beq_iff_eq, beq_iff_eq, p, fdivP]
      simp only [Nat.reduceSub] at *
      omega
    rw [e]
    exact h

theorem rft20 (n : Int) (hn : In n) {b : Bool} (h : (sgnF n 20 == n) = b) : TabOK Try.prog (fun _ => n) sl0 [(17, [.sx .i64 (.a 0), (.v (.int .i64 (.ofNat 20)))], .v (.bool b))] := by
  intro x hx
  simp only [List.mem_cons, List.not_mem_nil, or_false] at hx
  subst hx
  subst h
  exact rfits20 n hn

theorem rwide20 (n : Int) (hn : In n) : Ret Try.prog 19 [.int .i64 n, .int .i64 (20 : Nat)] (.bool (sgnF n 20 == n || lowF n 20 == n)) := by
  cases hf : (sgnF n 20 == n) with
  | true =>
    have h := retV (val := fun _ => n) (F := []) holds_nil (rft20 n hn hf) (by kernel_rfl) (by kernel_rfl) (f := 19) (args := [.sx .i64 (.a 0), (.v (.int .i64 (.ofNat 20)))]) (v := .v (.bool true)) (by kernel_rfl) (by kernel_rfl) (by kernel_rfl)
    exact h
  | false =>
    have p := (pl20 n hn).fit
    rw [beq_eq_false_iff_ne] at hf
    obtain ⟨h1, h2⟩ := id hn
    have pl := (pl20 n hn).low
    by_cases hc : 1 ≤ n
    · have hh : Holds (fun _ => n) [.ge (.a 0) 1] := holds_cons hc holds_nil
      have h := retV hh (rft20 n hn (beq_eq_false_iff_ne.2 hf)) (by kernel_rfl) (by kernel_rfl) (f := 19) (args := [.sx .i64 (.a 0), (.v (.int .i64 (.ofNat 20)))]) (v := .sb (.eq (.shr (.a 0) 20) (.c 0))) (by kernel_rfl) (by kernel_rfl) (by kernel_rfl)
      have e : (false || lowF n 20 == n) = (n.fdiv (2 ^ 20) == 0) := by
        rw [Bool.false_or, Bool.eq_iff_iff, beq_iff_eq, beq_iff_eq, pl, fdivP]
        omega
      rw [e]
      exact h
    · have hh : Holds (fun _ => n) [.le (.a 0) 0] := holds_cons (show n ≤ 0 by omega) holds_nil
      have h := retV hh (rft20 n hn (beq_eq_false_iff_ne.2 hf)) (by kernel_rfl) (by kernel_rfl) (f := 19) (args := [.sx .i64 (.a 0), (.v (.int .i64 (.ofNat 20)))]) (v := .v (.bool false)) (by kernel_rfl) (by kernel_rfl) (by kernel_rfl)
      have e : (false || lowF n 20 == n) = false := by
        rw [Bool.false_or, beq_eq_false_iff_ne]
        intro hl
        rw [pl] at hl
        simp only [Nat.reduceSub] at *
        apply hf
        rw [p]
        omega
      rw [e]
      exact h

theorem rlow21 (n : Int) (hn : In n) : Ret Try.prog 23 [.int .i64 n, .int .i64 (21 : Nat)] (.int .i64 (lowF n 21)) := by
  have h := retV (val := fun _ => n) (F := []) holds_nil tabNil rfl rfl (f := 23) (args := [.sx .i64 (.a 0), (.v (.int .i64 (.ofNat 21)))]) (v := .sx .i64 (chain 21)) (by kernel_rfl) (by kernel_rfl) (by kernel_rfl)
  simp only [concs, conc, chain_eval _ 21 (by omega)] at h
  have e : IntKind.i64.wrap (n % 2 ^ 21) = lowF n 21 := by
    obtain ⟨h1, h2⟩ := hn
    simp only [wrapI, lowF]
    omega
  rw [← e]
  exact h

theorem rlt21 (n : Int) (hn : In n) : TabOK Try.prog (fun j => [n, lowF n 21].getD j 0) sl0 [(23, [.sx .i64 (.a 0), (.v (.int .i64 (.ofNat 21)))], .sx .i64 (.a 1))] := by
  intro x hx
  simp only [List.mem_cons, List.not_mem_nil, or_false] at hx
  subst hx
  exact rlow21 n hn

theorem rsign21 (n : Int) (hn : In n) : Ret Try.prog 21 [.int .i64 n, .int .i64 (21 : Nat)] (.int .i64 (sgnF n 21)) := by
  have hb : (SX.eval (fun j => [n, lowF n 21].getD j 0) (.and .i64 (.shr (.a 1) 20) (.c 1))) = lowF n 21 / 2 ^ 20 % 2 := by
    show IntKind.i64.wrap (BitVec.ofInt IntKind.i64.bits ((lowF n 21).fdiv (2 ^ 20)) &&& BitVec.ofInt IntKind.i64.bits 1).toNat = _
    rw [andOne, fdivP]
  obtain ⟨h1, h2⟩ := id hn
  by_cases hc : lowF n 21 / 2 ^ 20 % 2 = 1
  · have hh : Holds (fun j => [n, lowF n 21].getD j 0) [.is (.and .i64 (.shr (.a 1) 20) (.c 1)) 1] := holds_cons (hb.trans hc) holds_nil
    have h := retV hh (rlt21 n hn) (by kernel_rfl) (by kernel_rfl) (f := 21) (args := [.sx .i64 (.a 0), (.v (.int .i64 (.ofNat 21)))]) (v := .sx .i64 (.wrap .i64 (.sub (.a 1) (.c 2097152)))) (by kernel_rfl) (by kernel_rfl) (by kernel_rfl)
    have e : IntKind.i64.wrap (lowF n 21 - 2097152) = sgnF n 21 := by
      simp only [wrapI, lowF, sgnF] at hc ⊢
      omega
    rw [← e]
    exact h
  · have hh : Holds (fun j => [n, lowF n 21].getD j 0) [.ne (.and .i64 (.shr (.a 1) 20) (.c 1)) 1] := holds_cons (by show _ ≠ _; rw [hb]; exact hc) holds_nil
    have h := retV hh (rlt21 n hn) (by kernel_rfl) (by kernel_rfl) (f := 21) (args := [.sx .i64 (.a 0), (.v (.int .i64 (.ofNat 21)))]) (v := .sx .i64 (.a 1)) (by kernel_rfl) (by kernel_rfl) (by kernel_rfl)
    have e : lowF n 21 = sgnF n 21 := by
      simp only [lowF, sgnF] at hc ⊢
      omega
    rw [← e]
    exact h

theorem rfits21 (n : Int) (hn : In n) : Ret Try.prog 17 [.int .i64 n, .int .i64 (21 : Nat)] (.bool (sgnF n 21 == n)) := by
  have hb : (SX.eval (fun _ => n) (.shr (.a 0) 20)) = n / 2 ^ 20 := by show n.fdiv (2 ^ 20) = _; rw [fdivP]
  have p := (pl21 n hn).fit
  obtain ⟨h1, h2⟩ := id hn
  by_cases hc : n / 2 ^ 20 = 0
  · have hh : Holds (fun _ => n) [.is (.shr (.a 0) 20) 0] := holds_cons (hb.trans hc) holds_nil
    have h := retV hh tabNil rfl rfl (f := 17) (args := [.sx .i64 (.a 0), (.v (.int .i64 (.ofNat 21)))]) (v := .v (.bool true)) (by kernel_rfl) (by kernel_rfl) (by kernel_rfl)
    have e : (sgnF n 21 == n) = true := by
      rw [beq_iff_eq, p]
      simp only [Nat.reduceSub] at *
      omega
    rw [e]
    exact h
  · have hh : Holds (fun _ => n) [.ne (.shr (.a 0) 20) 0] := holds_cons (by show _ ≠ _; rw [hb]; exact hc) holds_nil
    have h := retV hh tabNil rfl rfl (f := 17) (args := [.sx .i64 (.a 0), (.v (.int .i64 (.ofNat 21)))]) (v := .sb (.eq (.shr (.a 0) 20) (.c (-1)))) (by kernel_rfl) (by kernel_rfl) (by kernel_rfl)
    have e : (sgnF n 21 == n) = (n.fdiv (2 ^ 20) == -1) := by
      rw [Bool.eq_iff_iff, beq_iff_eq, beq_iff_eq, p, fdivP]
      simp only [Nat.reduceSub] at *
      omega
    rw [e]
    exact h

theorem rft21 (n : Int) (hn : In n) {b : Bool} (h : (sgnF n 21 == n) = b) : TabOK Try.prog (fun _ => n) sl0 [(17, [.sx .i64 (.a 0), (.v (.int .i64 (.ofNat 21)))], .v (.bool b))] := by
  intro x hx
  simp only [List.mem_cons, List.not_mem_nil, or_false] at hx
  subst hx
  subst h
  exact rfits21 n hn

theorem rwide21 (n : Int) (hn : In n) : Ret Try.prog 19 [.int .i64 n, .int .i64 (21 : Nat)] (.bool (sgnF n 21 == n || lowF n 21 == n)) := by
  cases hf : (sgnF n 21 == n) with
  | true =>
    have h := retV (val := fun _ => n) (F := []) holds_nil (rft21 n hn hf) (by kernel_rfl) (by kernel_rfl) (f := 19) (args := [.sx .i64 (.a 0), (.v (.int .i64 (.ofNat 21)))]) (v := .v (.bool true)) (by kernel_rfl) (by kernel_rfl) (by kernel_rfl)
    exact h
  | false =>
    have p := (pl21 n hn).fit
    rw [beq_eq_false_iff_ne] at hf
    obtain ⟨h1, h2⟩ := id hn
    have pl := (pl21 n hn).low
    by_cases hc : 1 ≤ n
    · have hh : Holds (fun _ => n) [.ge (.a 0) 1] := holds_cons hc holds_nil
      have h := retV hh (rft21 n hn (beq_eq_false_iff_ne.2 hf)) (by kernel_rfl) (by kernel_rfl) (f := 19) (args := [.sx .i64 (.a 0), (.v (.int .i64 (.ofNat 21)))]) (v := .sb (.eq (.shr (.a 0) 21) (.c 0))) (by kernel_rfl) (by kernel_rfl) (by kernel_rfl)
      have e : (false || lowF n 21 == n) = (n.fdiv (2 ^ 21) == 0) := by
        rw [Bool.false_or, Bool.eq_iff_iff, beq_iff_eq, beq_iff_eq, pl, fdivP]
        omega
      rw [e]
      exact h
    · have hh : Holds (fun _ => n) [.le (.a 0) 0] := holds_cons (show n ≤ 0 by omega) holds_nil
      have h := retV hh (rft21 n hn (beq_eq_false_iff_ne.2 hf)) (by kernel_rfl) (by kernel_rfl) (f := 19) (args := [.sx .i64 (.a 0), (.v (.int .i64 (.ofNat 21)))]) (v := .v (.bool false)) (by kernel_rfl) (by kernel_rfl) (by kernel_rfl)
      have e : (false || lowF n 21 == n) = false := by
        rw [Bool.false_or, beq_eq_false_iff_ne]
        intro hl
        rw [pl] at hl
        simp only [Nat.reduceSub] at *
        apply hf
        rw [p]
        omega
      rw [e]
      exact h

theorem rlow22 (n : Int) (hn : In n) : Ret Try.prog 23 [.int .i64 n, .int .i64 (22 : Nat)] (.int .i64 (lowF n 22)) := by
  have h := retV (val := fun _ => n) (F := []) holds_nil tabNil rfl rfl (f := 23) (args := [.sx .i64 (.a 0), (.v (.int .i64 (.ofNat 22)))]) (v := .sx .i64 (chain 22)) (by kernel_rfl) (by kernel_rfl) (by kernel_rfl)
  simp only [concs, conc, chain_eval _ 22 (by omega)] at h
  have e : IntKind.i64.wrap (n % 2 ^ 22) = lowF n 22 := by
    obtain ⟨h1, h2⟩ := hn
    simp only [wrapI, lowF]
    omega
  rw [← e]
  exact h

theorem rlt22 (n : Int) (hn : In n) : TabOK Try.prog (fun j => [n, lowF n 22].getD j 0) sl0 [(23, [.sx .i64 (.a 0), (.v (.int .i64 (.ofNat 22)))], .sx .i64 (.a 1))] := by
  intro x hx
  simp only [List.mem_cons, List.not_mem_nil, or_false] at hx
  subst hx
  exact rlow22 n hn

theorem rsign22 (n : Int) (hn : In n) : Ret Try.prog 21 [.int .i64 n, .int .i64 (22 : Nat)] (.int .i64 (sgnF n 22)) := by
  have hb : (SX.eval (fun j => [n, lowF n 22].getD j 0) (.and .i64 (.shr (.a 1) 21) (.c 1))) = lowF n 22 / 2 ^ 21 % 2 := by
    show IntKind.i64.wrap (BitVec.ofInt IntKind.i64.bits ((lowF n 22).fdiv (2 ^ 21)) &&& BitVec.ofInt IntKind.i64.bits 1).toNat = _
    rw [andOne, fdivP]
  obtain ⟨h1, h2⟩ := id hn
  by_cases hc : lowF n 22 / 2 ^ 21 % 2 = 1
  · have hh : Holds (fun j => [n, lowF n 22].getD j 0) [.is (.and .i64 (.shr (.a 1) 21) (.c 1)) 1] := holds_cons (hb.trans hc) holds_nil
    have h := retV hh (rlt22 n hn) (by kernel_rfl) (by kernel_rfl) (f := 21) (args := [.sx .i64 (.a 0), (.v (.int .i64 (.ofNat 22)))]) (v := .sx .i64 (.wrap .i64 (.sub (.a 1) (.c 4194304)))) (by kernel_rfl) (by kernel_rfl) (by kernel_rfl)
    have e : IntKind.i64.wrap (lowF n 22 - 4194304) = sgnF n 22 := by
      simp only [wrapI, lowF, sgnF] at hc ⊢
      omega
    rw [← e]
    exact h
  · have hh : Holds (fun j => [n, lowF n 22].getD j 0) [.ne (.and .i64 (.shr (.a 1) 21) (.c 1)) 1] := holds_cons (by show _ ≠ _; rw [hb]; exact hc) holds_nil
    have h := retV hh (rlt22 n hn) (by kernel_rfl) (by kernel_rfl) (f := 21) (args := [.sx .i64 (.a 0), (.v (.int .i64 (.ofNat 22)))]) (v := .sx .i64 (.a 1)) (by kernel_rfl) (by kernel_rfl) (by kernel_rfl)
    have e : lowF n 22 = sgnF n 22 := by
      simp only [lowF, sgnF] at hc ⊢
      omega
    rw [← e]
    exact h

theorem rfits22 (n : Int) (hn : In n) : Ret Try.prog 17 [.int .i64 n, .int .i64 (22 : Nat)] (.bool (sgnF n 22 == n)) := by
  have hb : (SX.eval (fun _ => n) (.shr (.a 0) 21)) = n / 2 ^ 21 := by show n.fdiv (2 ^ 21) = _; rw [fdivP]
  have p := (pl22 n hn).fit
  obtain ⟨h1, h2⟩ := id hn
  by_cases hc : n / 2 ^ 21 = 0
  · have hh : Holds (fun _ => n) [.is (.shr (.a 0) 21) 0] := holds_cons (hb.trans hc) holds_nil
    have h := retV hh tabNil rfl rfl (f := 17) (args := [.sx .i64 (.a 0), (.v (.int .i64 (.ofNat 22)))]) (v := .v (.bool true)) (by kernel_rfl) (by kernel_rfl) (by kernel_rfl)
    have e : (sgnF n 22 == n) = true := by
      rw [beq_iff_eq, p]
      simp only [Nat.reduceSub] at *
      omega
    rw [e]
    exact h
  · have hh : Holds (fun _ => n) [.ne (.shr (.a 0) 21) 0] := holds_cons (by show _ ≠ _; rw [hb]; exact hc) holds_nil
    have h := retV hh tabNil rfl rfl (f := 17) (args := [.sx .i64 (.a 0), (.v (.int .i64 (.ofNat 22)))]) (v := .sb (.eq (.shr (.a 0) 21) (.c (-1)))) (by kernel_rfl) (by kernel_rfl) (by kernel_rfl)
    have e : (sgnF n 22 == n) = (n.fdiv (2 ^ 21) == -1) := by
      rw [Bool.eq_iff_iff, beq_iff_eq, beq_iff_eq, p, fdivP]
      simp only [Nat.reduceSub] at *
      omega
    rw [e]
    exact h

theorem rft22 (n : Int) (hn : In n) {b : Bool} (h : (sgnF n 22 == n) = b) : TabOK Try.prog (fun _ => n) sl0 [(17, [.sx .i64 (.a 0), (.v (.int .i64 (.ofNat 22)))], .v (.bool b))] := by
  intro x hx
  simp only [List.mem_cons, List.not_mem_nil, or_false] at hx
  subst hx
  subst h
  exact rfits22 n hn

theorem rwide22 (n : Int) (hn : In n) : Ret Try.prog 19 [.int .i64 n, .int .i64 (22 : Nat)] (.bool (sgnF n 22 == n || lowF n 22 == n)) := by
  cases hf : (sgnF n 22 == n) with
  | true =>
    have h := retV (val := fun _ => n) (F := []) holds_nil (rft22 n hn hf) (by kernel_rfl) (by kernel_rfl) (f := 19) (args := [.sx .i64 (.a 0), (.v (.int .i64 (.ofNat 22)))]) (v := .v (.bool true)) (by kernel_rfl) (by kernel_rfl) (by kernel_rfl)
    exact h
  | false =>
    have p := (pl22 n hn).fit
    rw [beq_eq_false_iff_ne] at hf
    obtain ⟨h1, h2⟩ := id hn
    have pl := (pl22 n hn).low
    by_cases hc : 1 ≤ n
    · have hh : Holds (fun _ => n) [.ge (.a 0) 1] := holds_cons hc holds_nil
      have h := retV hh (rft22 n hn (beq_eq_false_iff_ne.2 hf)) (by kernel_rfl) (by kernel_rfl) (f := 19) (args := [.sx .i64 (.a 0), (.v (.int .i64 (.ofNat 22)))]) (v := .sb (.eq (.shr (.a 0) 22) (.c 0))) (by kernel_rfl) (by kernel_rfl) (by kernel_rfl)
      have e : (false || lowF n 22 == n) = (n.fdiv (2 ^ 22) == 0) := by
        rw [Bool.false_or, Bool.eq_iff_iff, beq_iff_eq, beq_iff_eq, pl, fdivP]
        omega
      rw [e]
      exact h
    · have hh : Holds (fun _ => n) [.le (.a 0) 0] := holds_cons (show n ≤ 0 by omega) holds_nil
      have h := retV hh (rft22 n hn (beq_eq_false_iff_ne.2 hf)) (by kernel_rfl) (by kernel_rfl) (f := 19) (args := [.sx .i64 (.a 0), (.v (.int .i64 (.ofNat 22)))]) (v := .v (.bool false)) (by kernel_rfl) (by kernel_rfl) (by kernel_rfl)
      have e : (false || lowF n 22 == n) = false := by
        rw [Bool.false_or, beq_eq_false_iff_ne]
        intro hl
        rw [pl] at hl
        simp only [Nat.reduceSub] at *
        apply hf
        rw [p]
        omega
      rw [e]
      exact h

theorem rlow23 (n : Int) (hn : In n) : Ret Try.prog 23 [.int .i64 n, .int .i64 (23 : Nat)] (.int .i64 (lowF n 23)) := by
  have h := retV (val := fun _ => n) (F := []) holds_nil tabNil rfl rfl (f := 23) (args := [.sx .i64 (.a 0), (.v (.int .i64 (.ofNat 23)))]) (v := .sx .i64 (chain 23)) (by kernel_rfl) (by kernel_rfl) (by kernel_rfl)
  simp only [concs, conc, chain_eval _ 23 (by omega)] at h
  have e : IntKind.i64.wrap (n % 2 ^ 23) = lowF n 23 := by
    obtain ⟨h1, h2⟩ := hn
    simp only [wrapI, lowF]
    omega
  rw [← e]
  exact h

theorem rlt23 (n : Int) (hn : In n) : TabOK Try.prog (fun j => [n, lowF n 23].getD j 0) sl0 [(23, [.sx .i64 (.a 0), (.v (.int .i64 (.ofNat 23)))], .sx .i64 (.a 1))] := by
  intro x hx
  simp only [List.mem_cons, List.not_mem_nil, or_false] at hx
  subst hx
  exact rlow23 n hn

theorem rsign23 (n : Int) (hn : In n) : Ret Try.prog 21 [.int .i64 n, .int .i64 (23 : Nat)] (.int .i64 (sgnF n 23)) := by
  have hb : (SX.eval (fun j => [n, lowF n 23].getD j 0) (.and .i64 (.shr (.a 1) 22) (.c 1))) = lowF n 23 / 2 ^ 22 % 2 := by
    show IntKind.i64.wrap (BitVec.ofInt IntKind.i64.bits ((lowF n 23).fdiv (2 ^ 22)) &&& BitVec.ofInt IntKind.i64.bits 1).toNat = _
    rw [andOne, fdivP]
  obtain ⟨h1, h2⟩ := id hn
  by_cases hc : lowF n 23 / 2 ^ 22 % 2 = 1
  · have hh : Holds (fun j => [n, lowF n 23].getD j 0) [.is (.and .i64 (.shr (.a 1) 22) (.c 1)) 1] := holds_cons (hb.trans hc) holds_nil
    have h := retV hh (rlt23 n hn) (by kernel_rfl) (by kernel_rfl) (f := 21) (args := [.sx .i64 (.a 0), (.v (.int .i64 (.ofNat 23)))]) (v := .sx .i64 (.wrap .i64 (.sub (.a 1) (.c 8388608)))) (by kernel_rfl) (by kernel_rfl) (by kernel_rfl)
    have e : IntKind.i64.wrap (lowF n 23 - 8388608) = sgnF n 23 := by
      simp only [wrapI, lowF, sgnF] at hc ⊢
      omega
    rw [← e]
    exact h
  · have hh : Holds (fun j => [n, lowF n 23].getD j 0) [.ne (.and .i64 (.shr (.a 1) 22) (.c 1)) 1] := holds_cons (by show _ ≠ _; rw [hb]; exact hc) holds_nil
    have h := retV hh (rlt23 n hn) (by kernel_rfl) (by kernel_rfl) (f := 21) (args := [.sx .i64 (.a 0), (.v (.int .i64 (.ofNat 23)))]) (v := .sx .i64 (.a 1)) (by kernel_rfl) (by kernel_rfl) (by kernel_rfl)
    have e : lowF n 23 = sgnF n 23 := by
      simp only [lowF, sgnF] at hc ⊢
      omega
    rw [← e]
    exact h

theorem rfits23 (n : Int) (hn : In n) : Ret Try.prog 17 [.int .i64 n, .int .i64 (23 : Nat)] (.bool (sgnF n 23 == n)) := by
  have hb : (SX.eval (fun _ => n) (.shr (.a 0) 22)) = n / 2 ^ 22 := by show n.fdiv (2 ^ 22) = _; rw [fdivP]
  have p := (pl23 n hn).fit
  obtain ⟨h1, h2⟩ := id hn
  by_cases hc : n / 2 ^ 22 = 0
  · have hh : Holds (fun _ => n) [.is (.shr (.a 0) 22) 0] := holds_cons (hb.trans hc) holds_nil
    have h := retV hh tabNil rfl rfl (f := 17) (args := [.sx .i64 (.a 0), (.v (.int .i64 (.ofNat 23)))]) (v := .v (.bool true)) (by kernel_rfl) (by kernel_rfl) (by kernel_rfl)
    have e : (sgnF n 23 == n) = true := by
      rw [beq_iff_eq, p]
      simp only [Nat.reduceSub] at *
      omega
    rw [e]
    exact h
  · have hh : Holds (fun _ => n) [.ne (.shr (.a 0) 22) 0] := holds_cons (by show _ ≠ _; rw [hb]; exact hc) holds_nil
    have h := retV hh tabNil rfl rfl (f := 17) (args := [.sx .i64 (.a 0), (.v (.int .i64 (.ofNat 23)))]) (v := .sb (.eq (.shr (.a 0) 22) (.c (-1)))) (by kernel_rfl) (by kernel_rfl) (by kernel_rfl)
    have e : (sgnF n 23 == n) = (n.fdiv (2 ^ 22) == -1) := by
      rw [Bool.eq_iff_iff, beq_iff_eq, beq_iff_eq, p, fdivP]
      simp only [Nat.reduceSub] at *
      omega
    rw [e]
    exact h

theorem rft23 (n : Int) (hn : In n) {b : Bool} (h : (sgnF n 23 == n) = b) : TabOK Try.prog (fun _ => n) sl0 [(17, [.sx .i64 (.a 0), (.v (.int .i64 (.ofNat 23)))], .v (.bool b))] := by
  intro x hx
  simp only [List.mem_cons, List.not_mem_nil, or_false] at hx
  subst hx
  subst h
  exact rfits23 n hn

theorem rwide23 (n : Int) (hn : In n) : Ret Try.prog 19 [.int .i64 n, .int .i64 (23 : Nat)] (.bool (sgnF n 23 == n || lowF n 23 == n)) := by
  cases hf : (sgnF n 23 == n) with
  | true =>
    have h := retV (val := fun _ => n) (F := []) holds_nil (rft23 n hn hf) (by kernel_rfl) (by kernel_rfl) (f := 19) (args := [.sx .i64 (.a 0), (.v (.int .i64 (.ofNat 23)))]) (v := .v (.bool true)) (by kernel_rfl) (by kernel_rfl) (by kernel_rfl)
    exact h
  | false =>
    have p := (pl23 n hn).fit
    rw [beq_eq_false_iff_ne] at hf
    obtain ⟨h1, h2⟩ := id hn
    have pl := (pl23 n hn).low
    by_cases hc : 1 ≤ n
    · have hh : Holds (fun _ => n) [.ge (.a 0) 1] := holds_cons hc holds_nil
      have h := retV hh (rft23 n hn (beq_eq_false_iff_ne.2 hf)) (by kernel_rfl) (by kernel_rfl) (f := 19) (args := [.sx .i64 (.a 0), (.v (.int .i64 (.ofNat 23)))]) (v := .sb (.eq (.shr (.a 0) 23) (.c 0))) (by kernel_rfl) (by kernel_rfl) (by kernel_rfl)
      have e : (false || lowF n 23 == n) = (n.fdiv (2 ^ 23) == 0) := by
        rw [Bool.false_or, Bool.eq_iff_iff, beq_iff_eq, beq_iff_eq, pl, fdivP]
        omega
      rw [e]
      exact h
    · have hh : Holds (fun _ => n) [.le (.a 0) 0] := holds_cons (show n ≤ 0 by omega) holds_nil
      have h := retV hh (rft23 n hn (beq_eq_false_iff_ne.2 hf)) (by kernel_rfl) (by kernel_rfl) (f := 19) (args := [.sx .i64 (.a 0), (.v (.int .i64 (.ofNat 23)))]) (v := .v (.bool false)) (by kernel_rfl) (by kernel_rfl) (by kernel_rfl)
      have e : (false || lowF n 23 == n) = false := by
        rw [Bool.false_or, beq_eq_false_iff_ne]
        intro hl
        rw [pl] at hl
        simp only [Nat.reduceSub] at *
        apply hf
        rw [p]
        omega
      rw [e]
      exact h

theorem rlow24 (n : Int) (hn : In n) : Ret Try.prog 23 [.int .i64 n, .int .i64 (24 : Nat)] (.int .i64 (lowF n 24)) := by
  have h := retV (val := fun _ => n) (F := []) holds_nil tabNil rfl rfl (f := 23) (args := [.sx .i64 (.a 0), (.v (.int .i64 (.ofNat 24)))]) (v := .sx .i64 (chain 24)) (by kernel_rfl) (by kernel_rfl) (by kernel_rfl)
  simp only [concs, conc, chain_eval _ 24 (by omega)] at h
  have e : IntKind.i64.wrap (n % 2 ^ 24) = lowF n 24 := by
    obtain ⟨h1, h2⟩ := hn
    simp only [wrapI, lowF]
    omega
  rw [← e]
  exact h

theorem rlt24 (n : Int) (hn : In n) : TabOK Try.prog (fun j => [n, lowF n 24].getD j 0) sl0 [(23, [.sx .i64 (.a 0), (.v (.int .i64 (.ofNat 24)))], .sx .i64 (.a 1))] := by
  intro x hx
  simp only [List.mem_cons, List.not_mem_nil, or_false] at hx
  subst hx
  exact rlow24 n hn

theorem rsign24 (n : Int) (hn : In n) : Ret Try.prog 21 [.int .i64 n, .int .i64 (24 : Nat)] (.int .i64 (sgnF n 24)) := by
  have hb : (SX.eval (fun j => [n, lowF n 24].getD j 0) (.and .i64 (.shr (.a 1) 23) (.c 1))) = lowF n 24 / 2 ^ 23 % 2 := by
    show IntKind.i64.wrap (BitVec.ofInt IntKind.i64.bits ((lowF n 24).fdiv (2 ^ 23)) &&& BitVec.ofInt IntKind.i64.bits 1).toNat = _
    rw [andOne, fdivP]
  obtain ⟨h1, h2⟩ := id hn
  by_cases hc : lowF n 24 / 2 ^ 23 % 2 = 1
  · have hh : Holds (fun j => [n, lowF n 24].getD j 0) [.is (.and .i64 (.shr (.a 1) 23) (.c 1)) 1] := holds_cons (hb.trans hc) holds_nil
    have h := retV hh (rlt24 n hn) (by kernel_rfl) (by kernel_rfl) (f := 21) (args := [.sx .i64 (.a 0), (.v (.int .i64 (.ofNat 24)))]) (v := .sx .i64 (.wrap .i64 (.sub (.a 1) (.c 16777216)))) (by kernel_rfl) (by kernel_rfl) (by kernel_rfl)
    have e : IntKind.i64.wrap (lowF n 24 - 16777216) = sgnF n 24 := by
      simp only [wrapI, lowF, sgnF] at hc ⊢
      omega
    rw [← e]
    exact h
  · have hh : Holds (fun j => [n, lowF n 24].getD j 0) [.ne (.and .i64 (.shr (.a 1) 23) (.c 1)) 1] := holds_cons (by show _ ≠ _; rw [hb]; exact hc) holds_nil
    have h := retV hh (rlt24 n hn) (by kernel_rfl) (by kernel_rfl) (f := 21) (args := [.sx .i64 (.a 0), (.v (.int .i64 (.ofNat 24)))]) (v := .sx .i64 (.a 1)) (by kernel_rfl) (by kernel_rfl) (by kernel_rfl)
    have e : lowF n 24 = sgnF n 24 := by
      simp only [lowF, sgnF] at hc ⊢
      omega
    rw [← e]
    exact h

theorem rfits24 (n : Int) (hn : In n) : Ret Try.prog 17 [.int .i64 n, .int .i64 (24 : Nat)] (.bool (sgnF n 24 == n)) := by
  have hb : (SX.eval (fun _ => n) (.shr (.a 0) 23)) = n / 2 ^ 23 := by show n.fdiv (2 ^ 23) = _; rw [fdivP]
  have p := (pl24 n hn).fit
  obtain ⟨h1, h2⟩ := id hn
  by_cases hc : n / 2 ^ 23 = 0
  · have hh : Holds (fun _ => n) [.is (.shr (.a 0) 23) 0] := holds_cons (hb.trans hc) holds_nil
    have h := retV hh tabNil rfl rfl (f := 17) (args := [.sx .i64 (.a 0), (.v (.int .i64 (.ofNat 24)))]) (v := .v (.bool true)) (by kernel_rfl) (by kernel_rfl) (by kernel_rfl)
    have e : (sgnF n 24 == n) = true := by
      rw [beq_iff_eq, p]
      simp only [Nat.reduceSub] at *
      omega
    rw [e]
    exact h
  · have hh : Holds (fun _ => n) [.ne (.shr (.a 0) 23) 0] := holds_cons (by show _ ≠ _; rw [hb]; exact hc) holds_nil
    have h := retV hh tabNil rfl rfl (f := 17) (args := [.sx .i64 (.a 0), (.v (.int .i64 (.ofNat 24)))]) (v := .sb (.eq (.shr (.a 0) 23) (.c (-1)))) (by kernel_rfl) (by kernel_rfl) (by kernel_rfl)
    have e : (sgnF n 24 == n) = (n.fdiv (2 ^ 23) == -1) := by
      rw [Bool.eq_iff_iff, beq_iff_eq, beq_iff_eq, p, fdivP]
      simp only [Nat.reduceSub] at *
      omega
    rw [e]
    exact h

theorem rft24 (n : Int) (hn : In n) {b : Bool} (h : (sgnF n 24 == n) = b) : TabOK Try.prog (fun _ => n) sl0 [(17, [.sx .i64 (.a 0), (.v (.int .i64 (.ofNat 24)))], .v (.bool b))] := by
  intro x hx
  simp only [List.mem_cons, List.not_mem_nil, or_false] at hx
  subst hx
  subst h
  exact rfits24 n hn

theorem rwide24 (n : Int) (hn : In n) : Ret Try.prog 19 [.int .i64 n, .int .i64 (24 : Nat)] (.bool (sgnF n 24 == n || lowF n 24 == n)) := by
  cases hf : (sgnF n 24 == n) with
  | true =>
    have h := retV (val := fun _ => n) (F := []) holds_nil (rft24 n hn hf) (by kernel_rfl) (by kernel_rfl) (f := 19) (args := [.sx .i64 (.a 0), (.v (.int .i64 (.ofNat 24)))]) (v := .v (.bool true)) (by kernel_rfl) (by kernel_rfl) (by kernel_rfl)
    exact h
  | false =>
    have p := (pl24 n hn).fit
    rw [beq_eq_false_iff_ne] at hf
    obtain ⟨h1, h2⟩ := id hn
    have pl := (pl24 n hn).low
    by_cases hc : 1 ≤ n
    · have hh : Holds (fun _ => n) [.ge (.a 0) 1] := holds_cons hc holds_nil
      have h := retV hh (rft24 n hn (beq_eq_false_iff_ne.2 hf)) (by kernel_rfl) (by kernel_rfl) (f := 19) (args := [.sx .i64 (.a 0), (.v (.int .i64 (.ofNat 24)))]) (v := .sb (.eq (.shr (.a 0) 24) (.c 0))) (by kernel_rfl) (by kernel_rfl) (by kernel_rfl)
      have e : (false || lowF n 24 == n) = (n.fdiv (2 ^ 24) == 0) := by
        rw [Bool.false_or, Bool.eq_iff_iff, beq_iff_eq, beq_iff_eq, pl, fdivP]
        omega
      rw [e]
      exact h
    · have hh : Holds (fun _ => n) [.le (.a 0) 0] := holds_cons (show n ≤ 0 by omega) holds_nil
      have h := retV hh (rft24 n hn (beq_eq_false_iff_ne.2 hf)) (by kernel_rfl) (by kernel_rfl) (f := 19) (args := [.sx .i64 (.a 0), (.v (.int .i64 (.ofNat 24)))]) (v := .v (.bool false)) (by kernel_rfl) (by kernel_rfl) (by kernel_rfl)
      have e : (false || lowF n 24 == n) = false := by
        rw [Bool.false_or, beq_eq_false_iff_ne]
        intro hl
        rw [pl] at hl
        simp only [Nat.reduceSub] at *
        apply hf
        rw [p]
        omega
      rw [e]
      exact h

theorem rlow25 (n : Int) (hn : In n) : Ret Try.prog 23 [.int .i64 n, .int .i64 (25 : Nat)] (.int .i64 (lowF n 25)) := by
  have h := retV (val := fun _ => n) (F := []) holds_nil tabNil rfl rfl (f := 23) (args := [.sx .i64 (.a 0), (.v (.int .i64 (.ofNat 25)))]) (v := .sx .i64 (chain 25)) (by kernel_rfl) (by kernel_rfl) (by kernel_rfl)
  simp only [concs, conc, chain_eval _ 25 (by omega)] at h
  have e : IntKind.i64.wrap (n % 2 ^ 25) = lowF n 25 := by
    obtain ⟨h1, h2⟩ := hn
    simp only [wrapI, lowF]
    omega
  rw [← e]
  exact h

theorem rlt25 (n : Int) (hn : In n) : TabOK Try.prog (fun j => [n, lowF n 25].getD j 0) sl0 [(23, [.sx .i64 (.a 0), (.v (.int .i64 (.ofNat 25)))], .sx .i64 (.a 1))] := by
  intro x hx
  simp only [List.mem_cons, List.not_mem_nil, or_false] at hx
  subst hx
  exact rlow25 n hn

theorem rsign25 (n : Int) (hn : In n) : Ret Try.prog 21 [.int .i64 n, .int .i64 (25 : Nat)] (.int .i64 (sgnF n 25)) := by
  have hb : (SX.eval (fun j => [n, lowF n 25].getD j 0) (.and .i64 (.shr (.a 1) 24) (.c 1))) = lowF n 25 / 2 ^ 24 % 2 := by
    show IntKind.i64.wrap (BitVec.ofInt IntKind.i64.bits ((lowF n 25).fdiv (2 ^ 24)) &&& BitVec.ofInt IntKind.i64.bits 1).toNat = _
    rw [andOne, fdivP]
  obtain ⟨h1, h2⟩ := id hn
  by_cases hc : lowF n 25 / 2 ^ 24 % 2 = 1
  · have hh : Holds (fun j => [n, lowF n 25].getD j 0) [.is (.and .i64 (.shr (.a 1) 24) (.c 1)) 1] := holds_cons (hb.trans hc) holds_nil
    have h := retV hh (rlt25 n hn) (by kernel_rfl) (by kernel_rfl) (f := 21) (args := [.sx .i64 (.a 0), (.v (.int .i64 (.ofNat 25)))]) (v := .sx .i64 (.wrap .i64 (.sub (.a 1) (.c 33554432)))) (by kernel_rfl) (by kernel_rfl) (by kernel_rfl)
    have e : IntKind.i64.wrap (lowF n 25 - 33554432) = sgnF n 25 := by
      simp only [wrapI, lowF, sgnF] at hc ⊢
      omega
    rw [← e]
    exact h
  · have hh : Holds (fun j => [n, lowF n 25].getD j 0) [.ne (.and .i64 (.shr (.a 1) 24) (.c 1)) 1] := holds_cons (by show _ ≠ _; rw [hb]; exact hc) holds_nil
    have h := retV hh (rlt25 n hn) (by kernel_rfl) (by kernel_rfl) (f := 21) (args := [.sx .i64 (.a 0), (.v (.int .i64 (.ofNat 25)))]) (v := .sx .i64 (.a 1)) (by kernel_rfl) (by kernel_rfl) (by kernel_rfl)
    have e : lowF n 25 = sgnF n 25 := by
      simp only [lowF, sgnF] at hc ⊢
      omega
    rw [← e]
    exact h

theorem rfits25 (n : Int) (hn : In n) : Ret Try.prog 17 [.int .i64 n, .int .i64 (25 : Nat)] (.bool (sgnF n 25 == n)) := by
  have hb : (SX.eval (fun _ => n) (.shr (.a 0) 24)) = n / 2 ^ 24 := by show n.fdiv (2 ^ 24) = _; rw [fdivP]
  have p := (pl25 n hn).fit
  obtain ⟨h1, h2⟩ := id hn
  by_cases hc : n / 2 ^ 24 = 0
  · have hh : Holds (fun _ => n) [.is (.shr (.a 0) 24) 0] := holds_cons (hb.trans hc) holds_nil
    have h := retV hh tabNil rfl rfl (f := 17) (args := [.sx .i64 (.a 0), (.v (.int .i64 (.ofNat 25)))]) (v := .v (.bool true)) (by kernel_rfl) (by kernel_rfl) (by kernel_rfl)
    have e : (sgnF n 25 == n) = true := by
      rw [beq_iff_eq, p]
      simp only [Nat.reduceSub] at *
      omega
    rw [e]
    exact h
  · have hh : Holds (fun _ => n) [.ne (.shr (.a 0) 24) 0] := holds_cons (by show _ ≠ _; rw [hb]; exact hc) holds_nil
    have h := retV hh tabNil rfl rfl (f := 17) (args := [.sx .i64 (.a 0), (.v (.int .i64 (.ofNat 25)))]) (v := .sb (.eq (.shr (.a 0) 24) (.c (-1)))) (by kernel_rfl) (by kernel_rfl) (by kernel_rfl)
    have e : (sgnF n 25 == n) = (n.fdiv (2 ^ 24) == -1) := by
      rw [Bool.eq_iff_iff, beq_iff_eq, beq_iff_eq, p, fdivP]
      simp only [Nat.reduceSub] at *
      omega
    rw [e]
    exact h

theorem rft25 (n : Int) (hn : In n) {b : Bool} (h : (sgnF n 25 == n) = b) : TabOK Try.prog (fun _ => n) sl0 [(17, [.sx .i64 (.a 0), (.v (.int .i64 (.ofNat 25)))], .v (.bool b))] := by
  intro x hx
  simp only [List.mem_cons, List.not_mem_nil, or_false] at hx
  subst hx
  subst h
  exact rfits25 n hn

theorem rwide25 (n : Int) (hn : In n) : Ret Try.prog 19 [.int .i64 n, .int .i64 (25 : Nat)] (.bool (sgnF n 25 == n || lowF n 25 == n)) := by
  cases hf : (sgnF n 25 == n) with
  | true =>
    have h := retV (val := fun _ => n) (F := []) holds_nil (rft25 n hn hf) (by kernel_rfl) (by kernel_rfl) (f := 19) (args := [.sx .i64 (.a 0), (.v (.int .i64 (.ofNat 25)))]) (v := .v (.bool true)) (by kernel_rfl) (by kernel_rfl) (by kernel_rfl)
    exact h
  | false =>
    have p := (pl25 n hn).fit
    rw [beq_eq_false_iff_ne] at hf
    obtain ⟨h1, h2⟩ := id hn
    have pl := (pl25 n hn).low
    by_cases hc : 1 ≤ n
    · have hh : Holds (fun _ => n) [.ge (.a 0) 1] := holds_cons hc holds_nil
      have h := retV hh (rft25 n hn (beq_eq_false_iff_ne.2 hf)) (by kernel_rfl) (by kernel_rfl) (f := 19) (args := [.sx .i64 (.a 0), (.v (.int .i64 (.ofNat 25)))]) (v := .sb (.eq (.shr (.a 0) 25) (.c 0))) (by kernel_rfl) (by kernel_rfl) (by kernel_rfl)
      have e : (false || lowF n 25 == n) = (n.fdiv (2 ^ 25) == 0) := by
        rw [Bool.false_or, Bool.eq_iff_iff, beq_iff_eq, beq_iff_eq, pl, fdivP]
        omega
      rw [e]
      exact h
    · have hh : Holds (fun _ => n) [.le (.a 0) 0] := holds_cons (show n ≤ 0 by omega) holds_nil
      have h := retV hh (rft25 n hn (beq_eq_false_iff_ne.2 hf)) (by kernel_rfl) (by kernel_rfl) (f := 19) (args := [.sx .i64 (.a 0), (.v (.int .i64 (.ofNat 25)))]) (v := .v (.bool false)) (by kernel_rfl) (by kernel_rfl) (by kernel_rfl)
      have e : (false || lowF n 25 == n) = false := by
        rw [Bool.false_or, beq_eq_false_iff_ne]
        intro hl
        rw [pl] at hl
        simp only [Nat.reduceSub] at *
        apply hf
        rw [p]
        omega
      rw [e]
      exact h

theorem rlow26 (n : Int) (hn : In n) : Ret Try.prog 23 [.int .i64 n, .int .i64 (26 : Nat)] (.int .i64 (lowF n 26)) := by
  have h := retV (val := fun _ => n) (F := []) holds_nil tabNil rfl rfl (f := 23) (args := [.sx .i64 (.a 0), (.v (.int .i64 (.ofNat 26)))]) (v := .sx .i64 (chain 26)) (by kernel_rfl) (by kernel_rfl) (by kernel_rfl)
  simp only [concs, conc, chain_eval _ 26 (by omega)] at h
  have e : IntKind.i64.wrap (n % 2 ^ 26) = lowF n 26 := by
    obtain ⟨h1, h2⟩ := hn
    simp only [wrapI, lowF]
    omega
  rw [← e]
  exact h

theorem rlt26 (n : Int) (hn : In n) : TabOK Try.prog (fun j => [n, lowF n 26].getD j 0) sl0 [(23, [.sx .i64 (.a 0), (.v (.int .i64 (.ofNat 26)))], .sx .i64 (.a 1))] := by
  intro x hx
  simp only [List.mem_cons, List.not_mem_nil, or_false] at hx
  subst hx
  exact rlow26 n hn

theorem rsign26 (n : Int) (hn : In n) : Ret Try.prog 21 [.int .i64 n, .int .i64 (26 : Nat)] (.int .i64 (sgnF n 26)) := by
  have hb : (SX.eval (fun j => [n, lowF n 26].getD j 0) (.and .i64 (.shr (.a 1) 25) (.c 1))) = lowF n 26 / 2 ^ 25 % 2 := by
    show IntKind.i64.wrap (BitVec.ofInt IntKind.i64.bits ((lowF n 26).fdiv (2 ^ 25)) &&& BitVec.ofInt IntKind.i64.bits 1).toNat = _
    rw [andOne, fdivP]
  obtain ⟨h1, h2⟩ := id hn
  by_cases hc : lowF n 26 / 2 ^ 25 % 2 = 1
  · have hh : Holds (fun j => [n, lowF n 26].getD j 0) [.is (.and .i64 (.shr (.a 1) 25) (.c 1)) 1] := holds_cons (hb.trans hc) holds_nil
    have h := retV hh (rlt26 n hn) (by kernel_rfl) (by kernel_rfl) (f := 21) (args := [.sx .i64 (.a 0), (.v (.int .i64 (.ofNat 26)))]) (v := .sx .i64 (.wrap .i64 (.sub (.a 1) (.c 67108864)))) (by kernel_rfl) (by kernel_rfl) (by kernel_rfl)
    have e : IntKind.i64.wrap (lowF n 26 - 67108864) = sgnF n 26 := by
      simp only [wrapI, lowF, sgnF] at hc ⊢
      omega
    rw [← e]
    exact h
  · have hh : Holds (fun j => [n, lowF n 26].getD j 0) [.ne (.and .i64 (.shr (.a 1) 25) (.c 1)) 1] := holds_cons (by show _ ≠ _; rw [hb]; exact hc) holds_nil
    have h := retV hh (rlt26 n hn) (by kernel_rfl) (by kernel_rfl) (f := 21) (args := [.sx .i64 (.a 0), (.v (.int .i64 (.ofNat 26)))]) (v := .sx .i64 (.a 1)) (by kernel_rfl) (by kernel_rfl) (by kernel_rfl)
    have e : lowF n 26 = sgnF n 26 := by
      simp only [lowF, sgnF] at hc ⊢
      omega
    rw [← e]
    exact h

theorem rfits26 (n : Int) (hn : In n) : Ret Try.prog 17 [.int .i64 n, .int .i64 (26 : Nat)] (.bool (sgnF n 26 == n)) := by
  have hb : (SX.eval (fun _ => n) (.shr (.a 0) 25)) = n / 2 ^ 25 := by show n.fdiv (2 ^ 25) = _; rw [fdivP]
  have p := (pl26 n hn).fit
  obtain ⟨h1, h2⟩ := id hn
  by_cases hc : n / 2 ^ 25 = 0
  · have hh : Holds (fun _ => n) [.is (.shr (.a 0) 25) 0] := holds_cons (hb.trans hc) holds_nil
    have h := retV hh tabNil rfl rfl (f := 17) (args := [.sx .i64 (.a 0), (.v (.int .i64 (.ofNat 26)))]) (v := .v (.bool true)) (by kernel_rfl) (by kernel_rfl) (by kernel_rfl)
    have e : (sgnF n 26 == n) = true := by
      rw [beq_iff_eq, p]
      simp only [Nat.reduceSub] at *
      omega
    rw [e]
    exact h
  · have hh : Holds (fun _ => n) [.ne (.shr (.a 0) 25) 0] := holds_cons (by show _ ≠ _; rw [hb]; exact hc) holds_nil
    have h := retV hh tabNil rfl rfl (f := 17) (args := [.sx .i64 (.a 0), (.v (.int .i64 (.ofNat 26)))]) (v := .sb (.eq (.shr (.a 0) 25) (.c (-1)))) (by kernel_rfl) (by kernel_rfl) (by kernel_rfl)
    have e : (sgnF n 26 == n) = (n.fdiv (2 ^ 25) == -1) := by
      rw [Bool.eq_iff_iff, beq_iff_eq, beq_iff_eq, p, fdivP]
      simp only [Nat.reduceSub] at *
      omega
    rw [e]
    exact h

theorem rft26 (n : Int) (hn : In n) {b : Bool} (h : (sgnF n 26 == n) = b) : TabOK Try.prog (fun _ => n) sl0 [(17, [.sx .i64 (.a 0), (.v (.int .i64 (.ofNat 26)))], .v (.bool b))] := by
  intro x hx
  simp only [List.mem_cons, List.not_mem_nil, or_false] at hx
  subst hx
  subst h
  exact rfits26 n hn

theorem rwide26 (n : Int) (hn : In n) : Ret Try.prog 19 [.int .i64 n, .int .i64 (26 : Nat)] (.bool (sgnF n 26 == n || lowF n 26 == n)) := by
  cases hf : (sgnF n 26 == n) with
  | true =>
    have h := retV (val := fun _ => n) (F := []) holds_nil (rft26 n hn hf) (by kernel_rfl) (by kernel_rfl) (f := 19) (args := [.sx .i64 (.a 0), (.v (.int .i64 (.ofNat 26)))]) (v := .v (.bool true)) (by kernel_rfl) (by kernel_rfl) (by kernel_rfl)
    exact h
  | false =>
    have p := (pl26 n hn).fit
    rw [beq_eq_false_iff_ne] at hf
    obtain ⟨h1, h2⟩ := id hn
    have pl := (pl26 n hn).low
    by_cases hc : 1 ≤ n
    · have hh : Holds (fun _ => n) [.ge (.a 0) 1] := holds_cons hc holds_nil
      have h := retV hh (rft26 n hn (beq_eq_false_iff_ne.2 hf)) (by kernel_rfl) (by kernel_rfl) (f := 19) (args := [.sx .i64 (.a 0), (.v (.int .i64 (.ofNat 26)))]) (v := .sb (.eq (.shr (.a 0) 26) (.c 0))) (by kernel_rfl) (by kernel_rfl) (by kernel_rfl)
      have e : (false || lowF n 26 == n) = (n.fdiv (2 ^ 26) == 0) := by
        rw [Bool.false_or, Bool.eq_iff_iff, beq_iff_eq, beq_iff_eq, pl, fdivP]
        omega
      rw [e]
      exact h
    · have hh : Holds (fun _ => n) [.le (.a 0) 0] := holds_cons (show n ≤ 0 by omega) holds_nil
      have h := retV hh (rft26 n hn (beq_eq_false_iff_ne.2 hf)) (by kernel_rfl) (by kernel_rfl) (f := 19) (args := [.sx .i64 (.a 0), (.v (.int .i64 (.ofNat 26)))]) (v := .v (.bool false)) (by kernel_rfl) (by kernel_rfl) (by kernel_rfl)
      have e : (false || lowF n 26 == n) = false := by
        rw [Bool.false_or, beq_eq_false_iff_ne]
        intro hl
        rw [pl] at hl
        simp only [Nat.reduceSub] at *
        apply hf
        rw [p]
        omega
      rw [e]
      exact h

theorem rlow27 (n : Int) (hn : In n) : Ret Try.prog 23 [.int .i64 n, .int .i64 (27 : Nat)] (.int .i64 (lowF n 27)) := by
  have h := retV (val := fun _ => n) (F := []) holds_nil tabNil rfl rfl (f := 23) (args := [.sx .i64 (.a 0), (.v (.int .i64 (.ofNat 27)))]) (v := .sx .i64 (chain 27)) (by kernel_rfl) (by kernel_rfl) (by kernel_rfl)
  simp only [concs, conc, chain_eval _ 27 (by omega)] at h
  have e : IntKind.i64.wrap (n % 2 ^ 27) = lowF n 27 := by
    obtain ⟨h1, h2⟩ := hn
    simp only [wrapI, lowF]
    omega
  rw [← e]
  exact h

theorem rlt27 (n : Int) (hn : In n) : TabOK Try.prog (fun j => [n, lowF n 27].getD j 0) sl0 [(23, [.sx .i64 (.a 0), (.v (.int .i64 (.ofNat 27)))], .sx .i64 (.a 1))] := by
  intro x hx
  simp only [List.mem_cons, List.not_mem_nil, or_false] at hx
  subst hx
  exact rlow27 n hn

theorem rsign27 (n : Int) (hn : In n) : Ret Try.prog 21 [.int .i64 n, .int .i64 (27 : Nat)] (.int .i64 (sgnF n 27)) := by
  have hb : (SX.eval (fun j => [n, lowF n 27].getD j 0) (.and .i64 (.shr (.a 1) 26) (.c 1))) = lowF n 27 / 2 ^ 26 % 2 := by
    show IntKind.i64.wrap (BitVec.ofInt IntKind.i64.bits ((lowF n 27).fdiv (2 ^ 26)) &&& BitVec.ofInt IntKind.i64.bits 1).toNat = _
    rw [andOne, fdivP]
  obtain ⟨h1, h2⟩ := id hn
  by_cases hc : lowF n 27 / 2 ^ 26 % 2 = 1
  · have hh : Holds (fun j => [n, lowF n 27].getD j 0) [.is (.and .i64 (.shr (.a 1) 26) (.c 1)) 1] := holds_cons (hb.trans hc) holds_nil
    have h := retV hh (rlt27 n hn) (by kernel_rfl) (by kernel_rfl) (f := 21) (args := [.sx .i64 (.a 0), (.v (.int .i64 (.ofNat 27)))]) (v := .sx .i64 (.wrap .i64 (.sub (.a 1) (.c 134217728)))) (by kernel_rfl) (by kernel_rfl) (by kernel_rfl)
    have e : IntKind.i64.wrap (lowF n 27 - 134217728) = sgnF n 27 := by
      simp only [wrapI, lowF, sgnF] at hc ⊢
      omega
    rw [← e]
    exact h
  · have hh : Holds (fun j => [n, lowF n 27].getD j 0) [.ne (.and .i64 (.shr (.a 1) 26) (.c 1)) 1] := holds_cons (by show _ ≠ _; rw [hb]; exact hc) holds_nil
    have h := retV hh (rlt27 n hn) (by kernel_rfl) (by kernel_rfl) (f := 21) (args := [.sx .i64 (.a 0), (.v (.int .i64 (.ofNat 27)))]) (v := .sx .i64 (.a 1)) (by kernel_rfl) (by kernel_rfl) (by kernel_rfl)
    have e : lowF n 27 = sgnF n 27 := by
      simp only [lowF, sgnF] at hc ⊢
      omega
    rw [← e]
    exact h

theorem rfits27 (n : Int) (hn : In n) : Ret Try.prog 17 [.int .i64 n, .int .i64 (27 : Nat)] (.bool (sgnF n 27 == n)) := by
  have hb : (SX.eval (fun _ => n) (.shr (.a 0) 26)) = n / 2 ^ 26 := by show n.fdiv (2 ^ 26) = _; rw [fdivP]
  have p := (pl27 n hn).fit
  obtain ⟨h1, h2⟩ := id hn
  by_cases hc : n / 2 ^ 26 = 0
  · have hh : Holds (fun _ => n) [.is (.shr (.a 0) 26) 0] := holds_cons (hb.trans hc) holds_nil
    have h := retV hh tabNil rfl rfl (f := 17) (args := [.sx .i64 (.a 0), (.v (.int .i64 (.ofNat 27)))]) (v := .v (.bool true)) (by kernel_rfl) (by kernel_rfl) (by kernel_rfl)
    have e : (sgnF n 27 == n) = true := by
      rw [beq_iff_eq, p]
      simp only [Nat.reduceSub] at *
      omega
    rw [e]
    exact h
  · have hh : Holds (fun _ => n) [.ne (.shr (.a 0) 26) 0] := holds_cons (by show _ ≠ _; rw [hb]; exact hc) holds_nil
    have h := retV hh tabNil rfl rfl (f := 17) (args := [.sx .i64 (.a 0), (.v (.int .i64 (.ofNat 27)))]) (v := .sb (.eq (.shr (.a 0) 26) (.c (-1)))) (by kernel_rfl) (by kernel_rfl) (by kernel_rfl)
    have e : (sgnF n 27 == n) = (n.fdiv (2 ^ 26) == -1) := by
      rw [Bool.eq_iff_iff, beq_iff_eq, beq_iff_eq, p, fdivP]
      simp only [Nat.reduceSub] at *
      omega
    rw [e]
    exact h

theorem rft27 (n : Int) (hn : In n) {b : Bool} (h : (sgnF n 27 == n) = b) : TabOK Try.prog (fun _ => n) sl0 [(17, [.sx .i64 (.a 0), (.v (.int .i64 (.ofNat 27)))], .v (.bool b))] := by
  intro x hx
  simp only [List.mem_cons, List.not_mem_nil, or_false] at hx
  subst hx
  subst h
  exact rfits27 n hn

theorem rwide27 (n : Int) (hn : In n) : Ret Try.prog 19 [.int .i64 n, .int .i64 (27 : Nat)] (.bool (sgnF n 27 == n || lowF n 27 == n)) := by
  cases hf : (sgnF n 27 == n) with
  | true =>
    have h := retV (val := fun _ => n) (F := []) holds_nil (rft27 n hn hf) (by kernel_rfl) (by kernel_rfl) (f := 19) (args := [.sx .i64 (.a 0), (.v (.int .i64 (.ofNat 27)))]) (v := .v (.bool true)) (by kernel_rfl) (by kernel_rfl) (by kernel_rfl)
    exact h
  | false =>
    have p := (pl27 n hn).fit
    rw [beq_eq_false_iff_ne] at hf
    obtain ⟨h1, h2⟩ := id hn
    have pl := (pl27 n hn).low
    by_cases hc : 1 ≤ n
    · have hh : Holds (fun _ => n) [.ge (.a 0) 1] := holds_cons hc holds_nil
      have h := retV hh (rft27 n hn (beq_eq_false_iff_ne.2 hf)) (by kernel_rfl) (by kernel_rfl) (f := 19) (args := [.sx .i64 (.a 0), (.v (.int .i64 (.ofNat 27)))]) (v := .sb (.eq (.shr (.a 0) 27) (.c 0))) (by kernel_rfl) (by kernel_rfl) (by kernel_rfl)
      have e : (false || lowF n 27 == n) = (n.fdiv (2 ^ 27) == 0) := by
        rw [Bool.false_or, Bool.eq_iff_iff, beq_iff_eq, beq_iff_eq, pl, fdivP]
        omega
      rw [e]
      exact h
    · have hh : Holds (fun _ => n) [.le (.a 0) 0] := holds_cons (show n ≤ 0 by omega) holds_nil
      have h := retV hh (rft27 n hn (beq_eq_false_iff_ne.2 hf)) (by kernel_rfl) (by kernel_rfl) (f := 19) (args := [.sx .i64 (.a 0), (.v (.int .i64 (.ofNat 27)))]) (v := .v (.bool false)) (by kernel_rfl) (by kernel_rfl) (by kernel_rfl)
      have e : (false || lowF n 27 == n) = false := by
        rw [Bool.false_or, beq_eq_false_iff_ne]
        intro hl
        rw [pl] at hl
        simp only [Nat.reduceSub] at *
        apply hf
        rw [p]
        omega
      rw [e]
      exact h

theorem rlow28 (n : Int) (hn : In n) : Ret Try.prog 23 [.int .i64 n, .int .i64 (28 : Nat)] (.int .i64 (lowF n 28)) := by
  have h := retV (val := fun _ => n) (F := []) holds_nil tabNil rfl rfl (f := 23) (args := [.sx .i64 (.a 0), (.v (.int .i64 (.ofNat 28)))]) (v := .sx .i64 (chain 28)) (by kernel_rfl) (by kernel_rfl) (by kernel_rfl)
  simp only [concs, conc, chain_eval _ 28 (by omega)] at h
  have e : IntKind.i64.wrap (n % 2 ^ 28) = lowF n 28 := by
    obtain ⟨h1, h2⟩ := hn
    simp only [wrapI, lowF]
    omega
  rw [← e]
  exact h

theorem rlt28 (n : Int) (hn : In n) : TabOK Try.prog (fun j => [n, lowF n 28].getD j 0) sl0 [(23, [.sx .i64 (.a 0), (.v (.int .i64 (.ofNat 28)))], .sx .i64 (.a 1))] := by
  intro x hx
  simp only [List.mem_cons, List.not_mem_nil, or_false] at hx
  subst hx
  exact rlow28 n hn

theorem rsign28 (n : Int) (hn : In n) : Ret Try.prog 21 [.int .i64 n, .int .i64 (28 : Nat)] (.int .i64 (sgnF n 28)) := by
  have hb : (SX.eval (fun j => [n, lowF n 28].getD j 0) (.and .i64 (.shr (.a 1) 27) (.c 1))) = lowF n 28 / 2 ^ 27 % 2 := by
    show IntKind.i64.wrap (BitVec.ofInt IntKind.i64.bits ((lowF n 28).fdiv (2 ^ 27)) &&& BitVec.ofInt IntKind.i64.bits 1).toNat = _
    rw [andOne, fdivP]
  obtain ⟨h1, h2⟩ := id hn
  by_cases hc : lowF n 28 / 2 ^ 27 % 2 = 1
  · have hh : Holds (fun j => [n, lowF n 28].getD j 0) [.is (.and .i64 (.shr (.a 1) 27) (.c 1)) 1] := holds_cons (hb.trans hc) holds_nil
    have h := retV hh (rlt28 n hn) (by kernel_rfl) (by kernel_rfl) (f := 21) (args := [.sx .i64 (.a 0), (.v (.int .i64 (.ofNat 28)))]) (v := .sx .i64 (.wrap .i64 (.sub (.a 1) (.c 268435456)))) (by kernel_rfl) (by kernel_rfl) (by kernel_rfl)
    have e : IntKind.i64.wrap (lowF n 28 - 268435456) = sgnF n 28 := by
      simp only [wrapI, lowF, sgnF] at hc ⊢
      omega
    rw [← e]
    exact h
  · have hh : Holds (fun j => [n, lowF n 28].getD j 0) [.ne (.and .i64 (.shr (.a 1) 27) (.c 1)) 1] := holds_cons (by show _ ≠ _; rw [hb]; exact hc) holds_nil
    have h := retV hh (rlt28 n hn) (by kernel_rfl) (by kernel_rfl) (f := 21) (args := [.sx .i64 (.a 0), (.v (.int .i64 (.ofNat 28)))]) (v := .sx .i64 (.a 1)) (by kernel_rfl) (by kernel_rfl) (by kernel_rfl)
    have e : lowF n 28 = sgnF n 28 := by
      simp only [lowF, sgnF] at hc ⊢
      omega
    rw [← e]
    exact h

theorem rfits28 (n : Int) (hn : In n) : Ret Try.prog 17 [.int .i64 n, .int .i64 (28 : Nat)] (.bool (sgnF n 28 == n)) := by
  have hb : (SX.eval (fun _ => n) (.shr (.a 0) 27)) = n / 2 ^ 27 := by show n.fdiv (2 ^ 27) = _; rw [fdivP]
  have p := (pl28 n hn).fit
  obtain ⟨h1, h2⟩ := id hn
  by_cases hc : n / 2 ^ 27 = 0
  · have hh : Holds (fun _ => n) [.is (.shr (.a 0) 27) 0] := holds_cons (hb.trans hc) holds_nil
    have h := retV hh tabNil rfl rfl (f := 17) (args := [.sx .i64 (.a 0), (.v (.int .i64 (.ofNat 28)))]) (v := .v (.bool true)) (by kernel_rfl) (by kernel_rfl) (by kernel_rfl)
    have e : (sgnF n 28 == n) = true := by
      rw [beq_iff_eq, p]
      simp only [Nat.reduceSub] at *
      omega
    rw [e]
    exact h
  · have hh : Holds (fun _ => n) [.ne (.shr (.a 0) 27) 0] := holds_cons (by show _ ≠ _; rw [hb]; exact hc) holds_nil
    have h := retV hh tabNil rfl rfl (f := 17) (args := [.sx .i64 (.a 0), (.v (.int .i64 (.ofNat 28)))]) (v := .sb (.eq (.shr (.a 0) 27) (.c (-1)))) (by kernel_rfl) (by kernel_rfl) (by kernel_rfl)
    have e : (sgnF n 28 == n) = (n.fdiv (2 ^ 27) == -1) := by
      rw [Bool.eq_iff_iff, beq_iff_eq, beq_iff_eq, p, fdivP]
      simp only [Nat.reduceSub] at *
      omega
    rw [e]
    exact h

theorem rft28 (n : Int) (hn : In n) {b : Bool} (h : (sgnF n 28 == n) = b) : TabOK Try.prog (fun _ => n) sl0 [(17, [.sx .i64 (.a 0), (.v (.int .i64 (.ofNat 28)))], .v (.bool b))] := by
  intro x hx
  simp only [List.mem_cons, List.not_mem_nil, or_false] at hx
  subst hx
  subst h
  exact rfits28 n hn

theorem rwide28 (n : Int) (hn : In n) : Ret Try.prog 19 [.int .i64 n, .int .i64 (28 : Nat)] (.bool (sgnF n 28 == n || lowF n 28 == n)) := by
  cases hf : (sgnF n 28 == n) with
  | true =>
    have h := retV (val := fun _ => n) (F := []) holds_nil (rft28 n hn hf) (by kernel_rfl) (by kernel_rfl) (f := 19) (args := [.sx .i64 (.a 0), (.v (.int .i64 (.ofNat 28)))]) (v := .v (.bool true)) (by kernel_rfl) (by kernel_rfl) (by kernel_rfl)
    exact h
  | false =>
    have p := (pl28 n hn).fit
    rw [beq_eq_false_iff_ne] at hf
    obtain ⟨h1, h2⟩ := id hn
    have pl := (pl28 n hn).low
    by_cases hc : 1 ≤ n
    · have hh : Holds (fun _ => n) [.ge (.a 0) 1] := holds_cons hc holds_nil
      have h := retV hh (rft28 n hn (beq_eq_false_iff_ne.2 hf)) (by kernel_rfl) (by kernel_rfl) (f := 19) (args := [.sx .i64 (.a 0), (.v (.int .i64 (.ofNat 28)))]) (v := .sb (.eq (.shr (.a 0) 28) (.c 0))) (by kernel_rfl) (by kernel_rfl) (by kernel_rfl)
      have e : (false || lowF n 28 == n) = (n.fdiv (2 ^ 28) == 0) := by
        rw [Bool.false_or, Bool.eq_iff_iff, beq_iff_eq, beq_iff_eq, pl, fdivP]
        omega
      rw [e]
      exact h
    · have hh : Holds (fun _ => n) [.le (.a 0) 0] := holds_cons (show n ≤ 0 by omega) holds_nil
      have h := retV hh (rft28 n hn (beq_eq_false_iff_ne.2 hf)) (by kernel_rfl) (by kernel_rfl) (f := 19) (args := [.sx .i64 (.a 0), (.v (.int .i64 (.ofNat 28)))]) (v := .v (.bool false)) (by kernel_rfl) (by kernel_rfl) (by kernel_rfl)
      have e : (false || lowF n 28 == n) = false := by
        rw [Bool.false_or, beq_eq_false_iff_ne]
        intro hl
        rw [pl] at hl
        simp only [Nat.reduceSub] at *
        apply hf
        rw [p]
        omega
      rw [e]
      exact h

theorem rlow29 (n : Int) (hn : In n) : Ret Try.prog 23 [.int .i64 n, .int .i64 (29 : Nat)] (.int .i64 (lowF n 29)) := by
  have h := retV (val := fun _ => n) (F := []) holds_nil tabNil rfl rfl (f := 23) (args := [.sx .i64 (.a 0), (.v (.int .i64 (.ofNat 29)))]) (v := .sx .i64 (chain 29)) (by kernel_rfl) (by kernel_rfl) (by kernel_rfl)
  simp only [concs, conc, chain_eval _ 29 (by omega)] at h
  have e : IntKind.i64.wrap (n % 2 ^ 29) = lowF n 29 := by
    obtain ⟨h1, h2⟩ := hn
    simp only [wrapI, lowF]
    omega
  rw [← e]
  exact h

theorem rlt29 (n : Int) (hn : In n) : TabOK Try.prog (fun j => [n, lowF n 29].getD j 0) sl0 [(23, [.sx .i64 (.a 0), (.v (.int .i64 (.ofNat 29)))], .sx .i64 (.a 1))] := by
  intro x hx
  simp only [List.mem_cons, List.not_mem_nil, or_false] at hx
  subst hx
  exact rlow29 n hn

theorem rsign29 (n : Int) (hn : In n) : Ret Try.prog 21 [.int .i64 n, .int .i64 (29 : Nat)] (.int .i64 (sgnF n 29)) := by
  have hb : (SX.eval (fun j => [n, lowF n 29].getD j 0) (.and .i64 (.shr (.a 1) 28) (.c 1))) = lowF n 29 / 2 ^ 28 % 2 := by
    show IntKind.i64.wrap (BitVec.ofInt IntKind.i64.bits ((lowF n 29).fdiv (2 ^ 28)) &&& BitVec.ofInt IntKind.i64.bits 1).toNat = _
    rw [andOne, fdivP]
  obtain ⟨h1, h2⟩ := id hn
  by_cases hc : lowF n 29 / 2 ^ 28 % 2 = 1
  · have hh : Holds (fun j => [n, lowF n 29].getD j 0) [.is (.and .i64 (.shr (.a 1) 28) (.c 1)) 1] := holds_cons (hb.trans hc) holds_nil
    have h := retV hh (rlt29 n hn) (by kernel_rfl) (by kernel_rfl) (f := 21) (args := [.sx .i64 (.a 0), (.v (.int .i64 (.ofNat 29)))]) (v := .sx .i64 (.wrap .i64 (.sub (.a 1) (.c 536870912)))) (by kernel_rfl) (by kernel_rfl) (by kernel_rfl)
    have e : IntKind.i64.wrap (lowF n 29 - 536870912) = sgnF n 29 := by
      simp only [wrapI, lowF, sgnF] at hc ⊢
      omega
    rw [← e]
    exact h
  · have hh : Holds (fun j => [n, lowF n 29].getD j 0) [.ne (.and .i64 (.shr (.a 1) 28) (.c 1)) 1] := holds_cons (by show _ ≠ _; rw [hb]; exact hc) holds_nil
    have h := retV hh (rlt29 n hn) (by kernel_rfl) (by kernel_rfl) (f := 21) (args := [.sx .i64 (.a 0), (.v (.int .i64 (.ofNat 29)))]) (v := .sx .i64 (.a 1)) (by kernel_rfl) (by kernel_rfl) (by kernel_rfl)
    have e : lowF n 29 = sgnF n 29 := by
      simp only [lowF, sgnF] at hc ⊢
      omega
    rw [← e]
    exact h

theorem rfits29 (n : Int) (hn : In n) : Ret Try.prog 17 [.int .i64 n, .int .i64 (29 : Nat)] (.bool (sgnF n 29 == n)) := by
  have hb : (SX.eval (fun _ => n) (.shr (.a 0) 28)) = n / 2 ^ 28 := by show n.fdiv (2 ^ 28) = _; rw [fdivP]
  have p := (pl29 n hn).fit
  obtain ⟨h1, h2⟩ := id hn
  by_cases hc : n / 2 ^ 28 = 0
  · have hh : Holds (fun _ => n) [.is (.shr (.a 0) 28) 0] := holds_cons (hb.trans hc) holds_nil
    have h := retV hh tabNil rfl rfl (f := 17) (args := [.sx .i64 (.a 0), (.v (.int .i64 (.ofNat 29)))]) (v := .v (.bool true)) (by kernel_rfl) (by kernel_rfl) (by kernel_rfl)
    have e : (sgnF n 29 == n) = true := by
      rw [beq_iff_eq, p]
      simp only [Nat.reduceSub] at *
      omega
    rw [e]
    exact h
  · have hh : Holds (fun _ => n) [.ne (.shr (.a 0) 28) 0] := holds_cons (by show _ ≠ _; rw [hb]; exact hc) holds_nil
    have h := retV hh tabNil rfl rfl (f := 17) (args := [.sx .i64 (.a 0), (.v (.int .i64 (.ofNat 29)))]) (v := .sb (.eq (.shr (.a 0) 28) (.c (-1)))) (by kernel_rfl) (by kernel_rfl) (by kernel_rfl)
    have e : (sgnF n 29 == n) = (n.fdiv (2 ^ 28) == -1) := by
      rw [Bool.eq_iff_iff, beq_iff_eq, beq_iff_eq, p, fdivP]
      simp only [Nat.reduceSub] at *
      omega
    rw [e]
    exact h

theorem rft29 (n : Int) (hn : In n) {b : Bool} (h : (sgnF n 29 == n) = b) : TabOK Try.prog (fun _ => n) sl0 [(17, [.sx .i64 (.a 0), (.v (.int .i64 (.ofNat 29)))], .v (.bool b))] := by
  intro x hx
  simp only [List.mem_cons, List.not_mem_nil, or_false] at hx
  subst hx
  subst h
  exact rfits29 n hn

theorem rwide29 (n : Int) (hn : In n) : Ret Try.prog 19 [.int .i64 n, .int .i64 (29 : Nat)] (.bool (sgnF n 29 == n || lowF n 29 == n)) := by
  cases hf : (sgnF n 29 == n) with
  | true =>
    have h := retV (val := fun _ => n) (F := []) holds_nil (rft29 n hn hf) (by kernel_rfl) (by kernel_rfl) (f := 19) (args := [.sx .i64 (.a 0), (.v (.int .i64 (.ofNat 29)))]) (v := .v (.bool true)) (by kernel_rfl) (by kernel_rfl) (by kernel_rfl)
    exact h
  | false =>
    have p := (pl29 n hn).fit
    rw [beq_eq_false_iff_ne] at hf
    obtain ⟨h1, h2⟩ := id hn
    have pl := (pl29 n hn).low
    by_cases hc : 1 ≤ n
    · have hh : Holds (fun _ => n) [.ge (.a 0) 1] := holds_cons hc holds_nil
      have h := retV hh (rft29 n hn (beq_eq_false_iff_ne.2 hf)) (by kernel_rfl) (by kernel_rfl) (f := 19) (args := [.sx .i64 (.a 0), (.v (.int .i64 (.ofNat 29)))]) (v := .sb (.eq (.shr (.a 0) 29) (.c 0))) (by kernel_rfl) (by kernel_rfl) (by kernel_rfl)
      have e : (false || lowF n 29 == n) = (n.fdiv (2 ^ 29) == 0) := by
        rw [Bool.false_or, Bool.eq_iff_iff, beq_iff_eq, beq_iff_eq, pl, fdivP]
        omega
      rw [e]
      exact h
    · have hh : Holds (fun _ => n) [.le (.a 0) 0] := holds_cons (show n ≤ 0 by omega) holds_nil
      have h := retV hh (rft29 n hn (beq_eq_false_iff_ne.2 hf)) (by kernel_rfl) (by kernel_rfl) (f := 19) (args := [.sx .i64 (.a 0), (.v (.int .i64 (.ofNat 29)))]) (v := .v (.bool false)) (by kernel_rfl) (by kernel_rfl) (by kernel_rfl)
      have e : (false || lowF n 29 == n) = false := by
        rw [Bool.false_or, beq_eq_false_iff_ne]
        intro hl
        rw [pl] at hl
        simp only [Nat.reduceSub] at *
        apply hf
        rw [p]
        omega
      rw [e]
      exact h

theorem rlow30 (n : Int) (hn : In n) : Ret Try.prog 23 [.int .i64 n, .int .i64 (30 : Nat)] (.int .i64 (lowF n 30)) := by
  have h := retV (val := fun _ => n) (F := []) holds_nil tabNil rfl rfl (f := 23) (args := [.sx .i64 (.a 0), (.v (.int .i64 (.ofNat 30)))]) (v := .sx .i64 (chain 30)) (by kernel_rfl) (by kernel_rfl) (by kernel_rfl)
  simp only [concs, conc, chain_eval _ 30 (by omega)] at h
  have e : IntKind.i64.wrap (n % 2 ^ 30) = lowF n 30 := by
    obtain ⟨h1, h2⟩ := hn
    simp only [wrapI, lowF]
    omega
  rw [← e]
  exact h

theorem rlt30 (n : Int) (hn : In n) : TabOK Try.prog (fun j => [n, lowF n 30].getD j 0) sl0 [(23, [.sx .i64 (.a 0), (.v (.int .i64 (.ofNat 30)))], .sx .i64 (.a 1))] := by
  intro x hx
  simp only [List.mem_cons, List.not_mem_nil, or_false] at hx
  subst hx
  exact rlow30 n hn

theorem rsign30 (n : Int) (hn : In n) : Ret Try.prog 21 [.int .i64 n, .int .i64 (30 : Nat)] (.int .i64 (sgnF n 30)) := by
  have hb : (SX.eval (fun j => [n, lowF n 30].getD j 0) (.and .i64 (.shr (.a 1) 29) (.c 1))) = lowF n 30 / 2 ^ 29 % 2 := by
    show IntKind.i64.wrap (BitVec.ofInt IntKind.i64.bits ((lowF n 30).fdiv (2 ^ 29)) &&& BitVec.ofInt IntKind.i64.bits 1).toNat = _
    rw [andOne, fdivP]
  obtain ⟨h1, h2⟩ := id hn
  by_cases hc : lowF n 30 / 2 ^ 29 % 2 = 1
  · have hh : Holds (fun j => [n, lowF n 30].getD j 0) [.is (.and .i64 (.shr (.a 1) 29) (.c 1)) 1] := holds_cons (hb.trans hc) holds_nil
    have h := retV hh (rlt30 n hn) (by kernel_rfl) (by kernel_rfl) (f := 21) (args := [.sx .i64 (.a 0), (.v (.int .i64 (.ofNat 30)))]) (v := .sx .i64 (.wrap .i64 (.sub (.a 1) (.c 1073741824)))) (by kernel_rfl) (by kernel_rfl) (by kernel_rfl)
    have e : IntKind.i64.wrap (lowF n 30 - 1073741824) = sgnF n 30 := by
      simp only [wrapI, lowF, sgnF] at hc ⊢
      omega
    rw [← e]
    exact h
  · have hh : Holds (fun j => [n, lowF n 30].getD j 0) [.ne (.and .i64 (.shr (.a 1) 29) (.c 1)) 1] := holds_cons (by show _ ≠ _; rw [hb]; exact hc) holds_nil
    have h := retV hh (rlt30 n hn) (by kernel_rfl) (by kernel_rfl) (f := 21) (args := [.sx .i64 (.a 0), (.v (.int .i64 (.ofNat 30)))]) (v := .sx .i64 (.a 1)) (by kernel_rfl) (by kernel_rfl) (by kernel_rfl)
    have e : lowF n 30 = sgnF n 30 := by
      simp only [lowF, sgnF] at hc ⊢
      omega
    rw [← e]
    exact h

theorem rfits30 (n : Int) (hn : In n) : Ret Try.prog 17 [.int .i64 n, .int .i64 (30 : Nat)] (.bool (sgnF n 30 == n)) := by
  have hb : (SX.eval (fun _ => n) (.shr (.a 0) 29)) = n / 2 ^ 29 := by show n.fdiv (2 ^ 29) = _; rw [fdivP]
  have p := (pl30 n hn).fit
  obtain ⟨h1, h2⟩ := id hn
  by_cases hc : n / 2 ^ 29 = 0
  · have hh : Holds (fun _ => n) [.is (.shr (.a 0) 29) 0] := holds_cons (hb.trans hc) holds_nil
    have h := retV hh tabNil rfl rfl (f := 17) (args := [.sx .i64 (.a 0), (.v (.int .i64 (.ofNat 30)))]) (v := .v (.bool true)) (by kernel_rfl) (by kernel_rfl) (by kernel_rfl)
    have e : (sgnF n 30 == n) = true := by
      rw [beq_iff_eq, p]
      simp only [Nat.reduceSub] at *
      omega
    rw [e]
    exact h
  · have hh : Holds (fun _ => n) [.ne (.shr (.a 0) 29) 0] := holds_cons (by show _ ≠ _; rw [hb]; exact hc) holds_nil
    have h := retV hh tabNil rfl rfl (f := 17) (args := [.sx .i64 (.a 0), (.v (.int .i64 (.ofNat 30)))]) (v := .sb (.eq (.shr (.a 0) 29) (.c (-1)))) (by kernel_rfl) (by kernel_rfl) (by kernel_rfl)
    have e : (sgnF n 30 == n) = (n.fdiv (2 ^ 29) == -1) := by
      rw [Bool.eq_iff_iff, beq_iff_eq, beq_iff_eq, p, fdivP]
      simp only [Nat.reduceSub] at *
      omega
    rw [e]
    exact h

theorem rft30 (n : Int) (hn : In n) {b : Bool} (h : (sgnF n 30 == n) = b) : TabOK Try.prog (fun _ => n) sl0 [(17, [.sx .i64 (.a 0), (.v (.int .i64 (.ofNat 30)))], .v (.bool b))] := by
  intro x hx
  simp only [List.mem_cons, List.not_mem_nil, or_false] at hx
  subst hx
  subst h
  exact rfits30 n hn

theorem rwide30 (n : Int) (hn : In n) : Ret Try.prog 19 [.int .i64 n, .int .i64 (30 : Nat)] (.bool (sgnF n 30 == n || lowF n 30 == n)) := by
  cases hf : (sgnF n 30 == n) with
  | true =>
    have h := retV (val := fun _ => n) (F := []) holds_nil (rft30 n hn hf) (by kernel_rfl) (by kernel_rfl) (f := 19) (args := [.sx .i64 (.a 0), (.v (.int .i64 (.ofNat 30)))]) (v := .v (.bool true)) (by kernel_rfl) (by kernel_rfl) (by kernel_rfl)
    exact h
  | false =>
    have p := (pl30 n hn).fit
    rw [beq_eq_false_iff_ne] at hf
    obtain ⟨h1, h2⟩ := id hn
    have pl := (pl30 n hn).low
    by_cases hc : 1 ≤ n
    · have hh : Holds (fun _ => n) [.ge (.a 0) 1] := holds_cons hc holds_nil
      have h := retV hh (rft30 n hn (beq_eq_false_iff_ne.2 hf)) (by kernel_rfl) (by kernel_rfl) (f := 19) (args := [.sx .i64 (.a 0), (.v (.int .i64 (.ofNat 30)))]) (v := .sb (.eq (.shr (.a 0) 30) (.c 0))) (by kernel_rfl) (by kernel_rfl) (by kernel_rfl)
      have e : (false || lowF n 30 == n) = (n.fdiv (2 ^ 30) == 0) := by
        rw [Bool.false_or, Bool.eq_iff_iff, beq_iff_eq, beq_iff_eq, pl, fdivP]
        omega
      rw [e]
      exact h
    · have hh : Holds (fun _ => n) [.le (.a 0) 0] := holds_cons (show n ≤ 0 by omega) holds_nil
      have h := retV hh (rft30 n hn (beq_eq_false_iff_ne.2 hf)) (by kernel_rfl) (by kernel_rfl) (f := 19) (args := [.sx .i64 (.a 0), (.v (.int .i64 (.ofNat 30)))]) (v := .v (.bool false)) (by kernel_rfl) (by kernel_rfl) (by kernel_rfl)
      have e : (false || lowF n 30 == n) = false := by
        rw [Bool.false_or, beq_eq_false_iff_ne]
        intro hl
        rw [pl] at hl
        simp only [Nat.reduceSub] at *
        apply hf
        rw [p]
        omega
      rw [e]
      exact h

theorem rlow31 (n : Int) (hn : In n) : Ret Try.prog 23 [.int .i64 n, .int .i64 (31 : Nat)] (.int .i64 (lowF n 31)) := by
  have h := retV (val := fun _ => n) (F := []) holds_nil tabNil rfl rfl (f := 23) (args := [.sx .i64 (.a 0), (.v (.int .i64 (.ofNat 31)))]) (v := .sx .i64 (chain 31)) (by kernel_rfl) (by kernel_rfl) (by kernel_rfl)
  simp only [concs, conc, chain_eval _ 31 (by omega)] at h
  have e : IntKind.i64.wrap (n % 2 ^ 31) = lowF n 31 := by
    obtain ⟨h1, h2⟩ := hn
    simp only [wrapI, lowF]
    omega
  rw [← e]
  exact h

theorem rlt31 (n : Int) (hn : In n) : TabOK Try.prog (fun j => [n, lowF n 31].getD j 0) sl0 [(23, [.sx .i64 (.a 0), (.v (.int .i64 (.ofNat 31)))], .sx .i64 (.a 1))] := by
  intro x hx
  simp only [List.mem_cons, List.not_mem_nil, or_false] at hx
  subst hx
  exact rlow31 n hn

theorem rsign31 (n : Int) (hn : In n) : Ret Try.prog 21 [.int .i64 n, .int .i64 (31 : Nat)] (.int .i64 (sgnF n 31)) := by
  have hb : (SX.eval (fun j => [n, lowF n 31].getD j 0) (.and .i64 (.shr (.a 1) 30) (.c 1))) = lowF n 31 / 2 ^ 30 % 2 := by
    show IntKind.i64.wrap (BitVec.ofInt IntKind.i64.bits ((lowF n 31).fdiv (2 ^ 30)) &&& BitVec.ofInt IntKind.i64.bits 1).toNat = _
    rw [andOne, fdivP]
  obtain ⟨h1, h2⟩ := id hn
  by_cases hc : lowF n 31 / 2 ^ 30 % 2 = 1
  · have hh : Holds (fun j => [n, lowF n 31].getD j 0) [.is (.and .i64 (.shr (.a 1) 30) (.c 1)) 1] := holds_cons (hb.trans hc) holds_nil
    have h := retV hh (rlt31 n hn) (by kernel_rfl) (by kernel_rfl) (f := 21) (args := [.sx .i64 (.a 0), (.v (.int .i64 (.ofNat 31)))]) (v := .sx .i64 (.wrap .i64 (.sub (.a 1) (.c 2147483648)))) (by kernel_rfl) (by kernel_rfl) (by kernel_rfl)
    have e : IntKind.i64.wrap (lowF n 31 - 2147483648) = sgnF n 31 := by
      simp only [wrapI, lowF, sgnF] at hc ⊢
      omega
    rw [← e]
    exact h
  · have hh : Holds (fun j => [n, lowF n 31].getD j 0) [.ne (.and .i64 (.shr (.a 1) 30) (.c 1)) 1] := holds_cons (by show _ ≠ _; rw [hb]; exact hc) holds_nil
    have h := retV hh (rlt31 n hn) (by kernel_rfl) (by kernel_rfl) (f := 21) (args := [.sx .i64 (.a 0), (.v (.int .i64 (.ofNat 31)))]) (v := .sx .i64 (.a 1)) (by kernel_rfl) (by kernel_rfl) (by kernel_rfl)
    have e : lowF n 31 = sgnF n 31 := by
      simp only [lowF, sgnF] at hc ⊢
      omega
    rw [← e]
    exact h

theorem rfits31 (n : Int) (hn : In n) : Ret Try.prog 17 [.int .i64 n, .int .i64 (31 : Nat)] (.bool (sgnF n 31 == n)) := by
  have hb : (SX.eval (fun _ => n) (.shr (.a 0) 30)) = n / 2 ^ 30 := by show n.fdiv (2 ^ 30) = _; rw [fdivP]
  have p := (pl31 n hn).fit
  obtain ⟨h1, h2⟩ := id hn
  by_cases hc : n / 2 ^ 30 = 0
  · have hh : Holds (fun _ => n) [.is (.shr (.a 0) 30) 0] := holds_cons (hb.trans hc) holds_nil
    have h := retV hh tabNil rfl rfl (f := 17) (args := [.sx .i64 (.a 0), (.v (.int .i64 (.ofNat 31)))]) (v := .v (.bool true)) (by kernel_rfl) (by kernel_rfl) (by kernel_rfl)
    have e : (sgnF n 31 == n) = true := by
      rw [beq_iff_eq, p]
      simp only [Nat.reduceSub] at *
      omega
    rw [e]
    exact h
  · have hh : Holds (fun _ => n) [.ne (.shr (.a 0) 30) 0] := holds_cons (by show _ ≠ _; rw [hb]; exact hc) holds_nil
    have h := retV hh tabNil rfl rfl (f := 17) (args := [.sx .i64 (.a 0), (.v (.int .i64 (.ofNat 31)))]) (v := .sb (.eq (.shr (.a 0) 30) (.c (-1)))) (by kernel_rfl) (by kernel_rfl) (by kernel_rfl)
    have e : (sgnF n 31 == n) = (n.fdiv (2 ^ 30) == -1) := by
      rw [Bool.eq_iff_iff, beq_iff_eq, beq_iff_eq, p, fdivP]
      simp only [Nat.reduceSub] at *
      omega
    rw [e]
    exact h

theorem rft31 (n : Int) (hn : In n) {b : Bool} (h : (sgnF n 31 == n) = b) : TabOK Try.prog (fun _ => n) sl0 [(17, [.sx .i64 (.a 0), (.v (.int .i64 (.ofNat 31)))], .v (.bool b))] := by
  intro x hx
  simp only [List.mem_cons, List.not_mem_nil, or_false] at hx
  subst hx
  subst h
  exact rfits31 n hn

theorem rwide31 (n : Int) (hn : In n) : Ret Try.prog 19 [.int .i64 n, .int .i64 (31 : Nat)] (.bool (sgnF n 31 == n || lowF n 31 == n)) := by
  cases hf : (sgnF n 31 == n) with
  | true =>
    have h := retV (val := fun _ => n) (F := []) holds_nil (rft31 n hn hf) (by kernel_rfl) (by kernel_rfl) (f := 19) (args := [.sx .i64 (.a 0), (.v (.int .i64 (.ofNat 31)))]) (v := .v (.bool true)) (by kernel_rfl) (by kernel_rfl) (by kernel_rfl)
    exact h
  | false =>
    have p := (pl31 n hn).fit
    rw [beq_eq_false_iff_ne] at hf
    obtain ⟨h1, h2⟩ := id hn
    have pl := (pl31 n hn).low
    by_cases hc : 1 ≤ n
    · have hh : Holds (fun _ => n) [.ge (.a 0) 1] := holds_cons hc holds_nil
      have h := retV hh (rft31 n hn (beq_eq_false_iff_ne.2 hf)) (by kernel_rfl) (by kernel_rfl) (f := 19) (args := [.sx .i64 (.a 0), (.v (.int .i64 (.ofNat 31)))]) (v := .sb (.eq (.shr (.a 0) 31) (.c 0))) (by kernel_rfl) (by kernel_rfl) (by kernel_rfl)
      have e : (false || lowF n 31 == n) = (n.fdiv (2 ^ 31) == 0) := by
        rw [Bool.false_or, Bool.eq_iff_iff, beq_iff_eq, beq_iff_eq, pl, fdivP]
        omega
      rw [e]
      exact h
    · have hh : Holds (fun _ => n) [.le (.a 0) 0] := holds_cons (show n ≤ 0 by omega) holds_nil
      have h := retV hh (rft31 n hn (beq_eq_false_iff_ne.2 hf)) (by kernel_rfl) (by kernel_rfl) (f := 19) (args := [.sx .i64 (.a 0), (.v (.int .i64 (.ofNat 31)))]) (v := .v (.bool false)) (by kernel_rfl) (by kernel_rfl) (by kernel_rfl)
      have e : (false || lowF n 31 == n) = false := by
        rw [Bool.false_or, beq_eq_false_iff_ne]
        intro hl
        rw [pl] at hl
        simp only [Nat.reduceSub] at *
        apply hf
        rw [p]
        omega
      rw [e]
      exact h

theorem rlow32 (n : Int) (hn : In n) : Ret Try.prog 23 [.int .i64 n, .int .i64 (32 : Nat)] (.int .i64 (lowF n 32)) := by
  have h := retV (val := fun _ => n) (F := []) holds_nil tabNil rfl rfl (f := 23) (args := [.sx .i64 (.a 0), (.v (.int .i64 (.ofNat 32)))]) (v := .sx .i64 (chain 32)) (by kernel_rfl) (by kernel_rfl) (by kernel_rfl)
  simp only [concs, conc, chain_eval _ 32 (by omega)] at h
  have e : IntKind.i64.wrap (n % 2 ^ 32) = lowF n 32 := by
    obtain ⟨h1, h2⟩ := hn
    simp only [wrapI, lowF]
    omega
  rw [← e]
  exact h

theorem rlt32 (n : Int) (hn : In n) : TabOK Try.prog (fun j => [n, lowF n 32].getD j 0) sl0 [(23, [.sx .i64 (.a 0), (.v (.int .i64 (.ofNat 32)))], .sx .i64 (.a 1))] := by
  intro x hx
  simp only [List.mem_cons, List.not_mem_nil, or_false] at hx
  subst hx
  exact rlow32 n hn

theorem rsign32 (n : Int) (hn : In n) : Ret Try.prog 21 [.int .i64 n, .int .i64 (32 : Nat)] (.int .i64 (sgnF n 32)) := by
  have hb : (SX.eval (fun j => [n, lowF n 32].getD j 0) (.and .i64 (.shr (.a 1) 31) (.c 1))) = lowF n 32 / 2 ^ 31 % 2 := by
    show IntKind.i64.wrap (BitVec.ofInt IntKind.i64.bits ((lowF n 32).fdiv (2 ^ 31)) &&& BitVec.ofInt IntKind.i64.bits 1).toNat = _
    rw [andOne, fdivP]
  obtain ⟨h1, h2⟩ := id hn
  by_cases hc : lowF n 32 / 2 ^ 31 % 2 = 1
  · have hh : Holds (fun j => [n, lowF n 32].getD j 0) [.is (.and .i64 (.shr (.a 1) 31) (.c 1)) 1] := holds_cons (hb.trans hc) holds_nil
    have h := retV hh (rlt32 n hn) (by kernel_rfl) (by kernel_rfl) (f := 21) (args := [.sx .i64 (.a 0), (.v (.int .i64 (.ofNat 32)))]) (v := .sx .i64 (.wrap .i64 (.sub (.a 1) (.c 4294967296)))) (by kernel_rfl) (by kernel_rfl) (by kernel_rfl)
    have e : IntKind.i64.wrap (lowF n 32 - 4294967296) = sgnF n 32 := by
      simp only [wrapI, lowF, sgnF] at hc ⊢
      omega
    rw [← e]
    exact h
  · have hh : Holds (fun j => [n, lowF n 32].getD j 0) [.ne (.and .i64 (.shr (.a 1) 31) (.c 1)) 1] := holds_cons (by show _ ≠ _; rw [hb]; exact hc) holds_nil
    have h := retV hh (rlt32 n hn) (by kernel_rfl) (by kernel_rfl) (f := 21) (args := [.sx .i64 (.a 0), (.v (.int .i64 (.ofNat 32)))]) (v := .sx .i64 (.a 1)) (by kernel_rfl) (by kernel_rfl) (by kernel_rfl)
    have e : lowF n 32 = sgnF n 32 := by
      simp only [lowF, sgnF] at hc ⊢
      omega
    rw [← e]
    exact h

theorem rfits32 (n : Int) (hn : In n) : Ret Try.prog 17 [.int .i64 n, .int .i64 (32 : Nat)] (.bool (sgnF n 32 == n)) := by
  have hb : (SX.eval (fun _ => n) (.shr (.a 0) 31)) = n / 2 ^ 31 := by show n.fdiv (2 ^ 31) = _; rw [fdivP]
  have p := (pl32 n hn).fit
  obtain ⟨h1, h2⟩ := id hn
  by_cases hc : n / 2 ^ 31 = 0
  · have hh : Holds (fun _ => n) [.is (.shr (.a 0) 31) 0] := holds_cons (hb.trans hc) holds_nil
    have h := retV hh tabNil rfl rfl (f := 17) (args := [.sx .i64 (.a 0), (.v (.int .i64 (.ofNat 32)))]) (v := .v (.bool true)) (by kernel_rfl) (by kernel_rfl) (by kernel_rfl)
    have e : (sgnF n 32 == n) = true := by
      rw [beq_iff_eq, p]
      simp only [Nat.reduceSub] at *
      omega
    rw [e]
    exact h
  · have hh : Holds (fun _ => n) [.ne (.shr (.a 0) 31) 0] := holds_cons (by show _ ≠ _; rw [hb]; exact hc) holds_nil
    have h := retV hh tabNil rfl rfl (f := 17) (args := [.sx .i64 (.a 0), (.v (.int .i64 (.ofNat 32)))]) (v := .sb (.eq (.shr (.a 0) 31) (.c (-1)))) (by kernel_rfl) (by kernel_rfl) (by kernel_rfl)
    have e : (sgnF n 32 == n) = (n.fdiv (2 ^ 31) == -1) := by
      rw [Bool.eq_iff_iff, beq_iff_eq, beq_iff_eq, p, fdivP]
      simp only [Nat.reduceSub] at *
      omega
    rw [e]
    exact h

theorem rft32 (n : Int) (hn : In n) {b : Bool} (h : (sgnF n 32 == n) = b) : TabOK Try.prog (fun _ => n) sl0 [(17, [.sx .i64 (.a 0), (.v (.int .i64 (.ofNat 32)))], .v (.bool b))] := by
  intro x hx
  simp only [List.mem_cons, List.not_mem_nil, or_false] at hx
  subst hx
  subst h
  exact rfits32 n hn

theorem rwide32 (n : Int) (hn : In n) : Ret Try.prog 19 [.int .i64 n, .int .i64 (32 : Nat)] (.bool (sgnF n 32 == n || lowF n 32 == n)) := by
  cases hf : (sgnF n 32 == n) with
  | true =>
    have h := retV (val := fun _ => n) (F := []) holds_nil (rft32 n hn hf) (by kernel_rfl) (by kernel_rfl) (f := 19) (args := [.sx .i64 (.a 0), (.v (.int .i64 (.ofNat 32)))]) (v := .v (.bool true)) (by kernel_rfl) (by kernel_rfl) (by kernel_rfl)
    exact h
  | false =>
    have p := (pl32 n hn).fit
    rw [beq_eq_false_iff_ne] at hf
    obtain ⟨h1, h2⟩ := id hn
    have pl := (pl32 n hn).low
    by_cases hc : 1 ≤ n
    · have hh : Holds (fun _ => n) [.ge (.a 0) 1] := holds_cons hc holds_nil
      have h := retV hh (rft32 n hn (beq_eq_false_iff_ne.2 hf)) (by kernel_rfl) (by kernel_rfl) (f := 19) (args := [.sx .i64 (.a 0), (.v (.int .i64 (.ofNat 32)))]) (v := .sb (.eq (.shr (.a 0) 32) (.c 0))) (by kernel_rfl) (by kernel_rfl) (by kernel_rfl)
      have e : (false || lowF n 32 == n) = (n.fdiv (2 ^ 32) == 0) := by
        rw [Bool.false_or, Bool.eq_iff_iff, beq_iff_eq, beq_iff_eq, pl, fdivP]
        omega
      rw [e]
      exact h
    · have hh : Holds (fun _ => n) [.le (.a 0) 0] := holds_cons (show n ≤ 0 by omega) holds_nil
      have h := retV hh (rft32 n hn (beq_eq_false_iff_ne.2 hf)) (by kernel_rfl) (by kernel_rfl) (f := 19) (args := [.sx .i64 (.a 0), (.v (.int .i64 (.ofNat 32)))]) (v := .v (.bool false)) (by kernel_rfl) (by kernel_rfl) (by kernel_rfl)
      have e : (false || lowF n 32 == n) = false := by
        rw [Bool.false_or, beq_eq_false_iff_ne]
        intro hl
        rw [pl] at hl
        simp only [Nat.reduceSub] at *
        apply hf
        rw [p]
        omega
      rw [e]
      exact h

end Go.Proofs.Ytclgmeoofmidfaa.Fld
