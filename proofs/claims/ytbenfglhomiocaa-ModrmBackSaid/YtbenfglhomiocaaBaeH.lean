/-
  The law 'ModrmBack' where there is no way, or where a slice is too long.
-/
import Derived.Test.YtbenfglhomiocaaBakH
namespace Go.Proofs.Ytbenfglhomiocaa.Bak
open Go.Sim Go.Proofs.Ytbenfglhomiocaa.Tab
set_option maxRecDepth 100000
set_option linter.unusedVariables false

abbrev argsX (x : AV) : List AV := [a 10, x, .osl 1, .osl 3, a 8]

def argAny : AV := .agg [a 40, a 41, a 42, a 43, a 44, a 45, a 46, a 47, a 48, a 49, a 50]

theorem lX {val : Nat → Int} {sla : Nat → Option Addr × Nat} {F : List Fact} {x : AV} {tab : List (FuncId × List AV × AV)} (h : Holds val F) (hx : plain x = true) (ht : TabOK Try.prog val sla tab) (hc : bAnd (tab.all (fun x => bodyOK Try.prog x.1)) (bAnd (tab.all (fun x => plain x.2.2 && plains x.2.1))
    (saysTrue (@runO (symsOf val F h sla) Try.prog (orElse (known 4 yes []) (tabO tab)) 1000 6 (argsX x) []))) = true) : LawO Try.prog 6 (argsX x) [] sla val := by
  obtain ⟨h1, hc⟩ := bAnd_true hc
  obtain ⟨h2, h3⟩ := bAnd_true hc
  exact lawO_of h (@orElse_sound Try.prog (symsOf val F h sla) _ _ (@knownB (symsOf val F h sla)) (tabOK_sound h h1 h2 ht)) mixB ⟨trivial, plain_wf _ hx, trivial, trivial, trivial, trivial⟩ rfl h3

theorem tabNone {val : Nat → Int} {sla : Nat → Option Addr × Nat} : TabOK Try.prog val sla [] := fun _ hy => by cases hy

/-- No such field. -/
theorem fieldLo {val : Nat → Int} {sla : Nat → Option Addr × Nat} (h : Holds val [.le (.a 10) (-1)]) : LawO Try.prog 6 (argsX argAny) [] sla val := lX h rfl tabNone (by kernel_rfl)

theorem fieldHi {val : Nat → Int} {sla : Nat → Option Addr × Nat} (h : Holds val [.ge (.a 10) 8]) : LawO Try.prog 6 (argsX argAny) [] sla val := lX h rfl tabNone (by kernel_rfl)

/-- No such operand. -/
theorem errX {val : Nat → Int} {sla : Nat → Option Addr × Nat} (h : Holds val [.ge (.a 10) 0, .le (.a 10) 7, .ne (.a 12) 0]) (ht : TabOK Try.prog val sla [(30, [argAny], a 12)]) : LawO Try.prog 6 (argsX argAny) [] sla val := lX h rfl ht (by kernel_rfl)

/-- An operand of another kind. -/
theorem otherX {val : Nat → Int} {sla : Nat → Option Addr × Nat} (h : Holds val [.ge (.a 10) 0, .le (.a 10) 7, .is (.a 12) 0, .ne (.a 40) 1, .ne (.a 40) 2]) (ht : TabOK Try.prog val sla [(30, [argAny], a 12)]) : LawO Try.prog 6 (argsX argAny) [] sla val := lX h rfl ht (by kernel_rfl)

/-- What is known where a slice is too long: z: the one ahead. -/
def preL (c : Cfg) (z : Bool) : List Fact :=
  [.ge (.a 10) 0, .le (.a 10) 7] ++
  (cond (Nat.beq c.lb 8) ([.ge (.a 11) 0, .le (.a 11) 7] ++ (cond (Nat.beq c.kd 3) [.ne (.a 11) 4] [] ++ cond (Nat.beq c.kd 0) [] [.ne (.a 11) 5])) [] ++
  (cond (Nat.beq c.li 8) [.ge (.a 14) 0, .le (.a 14) 7, .ne (.a 14) 4] [] ++
  (cond (Nat.beq c.dk 0) [] [.ge (.a 6) (-2147483648), .le (.a 6) 2147483647, .ne (.a 6) 0] ++
   cond z [.ge (.a 1) 31] [.ge (.a 1) 0, .le (.a 1) 30, .ge (.a 3) 31])))

/-- The law, by these calls. -/
abbrev LA (c : Cfg) (z : Bool) : Prop := ∀ (val : Nat → Int) (sla : Nat → Option Addr × Nat), Holds val (preL c z) → TabOK Try.prog val sla (tP c) → MTabOK Try.prog val sla (tM c) → LawO Try.prog 6 (argsX c.arg) [] sla val

theorem plainArg (c : Cfg) : plain c.arg = true := by
  unfold Cfg.arg Cfg.kind
  split <;> rfl

theorem lL {c : Cfg} {z : Bool} (hc : ∀ (val : Nat → Int) (sla : Nat → Option Addr × Nat) (h : Holds val (preL c z)), bAnd ((tP c).all (fun x => bodyOK Try.prog x.1)) (bAnd ((tP c).all (fun x => plain x.2.2 && plains x.2.1)) (bAnd ((tM c).all (meOK Try.prog))
    (saysTrue (@runO (symsOf val (preL c z) h sla) Try.prog (orElse (known 4 yes []) (orElse (tabO (tP c)) (@mTab (symsOf val (preL c z) h sla) (tM c)))) 1000 6 (argsX c.arg) [])))) = true) : LA c z := by
  intro val sla h t1 t2
  have hc := hc val sla h
  obtain ⟨h1, hc⟩ := bAnd_true hc
  obtain ⟨h2, hc⟩ := bAnd_true hc
  obtain ⟨h3, h4⟩ := bAnd_true hc
  exact lawO_of h (@orElse_sound Try.prog (symsOf val (preL c z) h sla) _ _ (@knownB (symsOf val (preL c z) h sla)) (@orElse_sound Try.prog (symsOf val (preL c z) h sla) _ _ (tabOK_sound h h1 h2 t1) (mTabOK_sound h h3 t2)))
    mixB ⟨trivial, plain_wf _ (plainArg c), trivial, trivial, trivial, trivial⟩ rfl h4

end Go.Proofs.Ytbenfglhomiocaa.Bak
