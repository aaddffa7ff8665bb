/-
  The law 'ModrmBack': the kind is chosen.
-/
import Derived.Test.YtbenfglhomiocaaBakD0
import Derived.Test.YtbenfglhomiocaaBakD1
import Derived.Test.YtbenfglhomiocaaBakD2
import Derived.Test.YtbenfglhomiocaaBakD3
import Derived.Test.YtbenfglhomiocaaBakD4
import Derived.Test.YtbenfglhomiocaaBakD5
import Derived.Test.YtbenfglhomiocaaBakD6
import Derived.Test.YtbenfglhomiocaaBakD7
namespace Go.Proofs.Ytbenfglhomiocaa.Bak
open Go.Sim Go.Proofs.Ytbenfglhomiocaa.Tab
set_option maxRecDepth 100000
set_option linter.unusedVariables false

def AllB : List Cfg → Prop
  | [] => True
  | c :: l => BA c ∧ AllB l

def bq (a b : Bool) : Bool := cond a b (!b)

theorem bq_eq : ∀ {a b : Bool}, bq a b = true → a = b := by decide

def beqC (p q : Cfg) : Bool := Nat.beq p.hb q.hb && (Nat.beq p.lb q.lb && (Nat.beq p.hi q.hi && (Nat.beq p.li q.li && (Nat.beq p.ss q.ss && (Nat.beq p.dk q.dk && (Nat.beq p.kd q.kd && (bq p.ah q.ah && bq p.be q.be)))))))

theorem beqC_eq {p q : Cfg} (h : beqC p q = true) : p = q := by
  simp only [beqC, Bool.and_eq_true] at h
  obtain ⟨h1, h2, h3, h4, h5, h6, h7, h8, h9⟩ := h
  obtain ⟨kd, hb, lb, hi, li, ss, dk, ah, be⟩ := p
  obtain ⟨kd', hb', lb', hi', li', ss', dk', ah', be'⟩ := q
  simp only at h1 h2 h3 h4 h5 h6 h7 h8 h9
  obtain rfl := Nat.eq_of_beq_eq_true h1
  obtain rfl := Nat.eq_of_beq_eq_true h2
  obtain rfl := Nat.eq_of_beq_eq_true h3
  obtain rfl := Nat.eq_of_beq_eq_true h4
  obtain rfl := Nat.eq_of_beq_eq_true h5
  obtain rfl := Nat.eq_of_beq_eq_true h6
  obtain rfl := Nat.eq_of_beq_eq_true h7
  obtain rfl := bq_eq h8
  obtain rfl := bq_eq h9
  rfl

def memC (c : Cfg) : List Cfg → Bool
  | [] => false
  | d :: l => cond (beqC c d) true (memC c l)

theorem memC_all {c : Cfg} : ∀ {l : List Cfg}, memC c l = true → AllB l → BA c
  | [], h, _ => by cases h
  | d :: l, h, ha => by
    unfold memC at h
    cases e : beqC c d
    · rw [e] at h; exact memC_all h ha.2
    · rw [beqC_eq e]; exact ha.1

def lbN (n : Nat) : Nat := match n with | 0 => 8 | 1 => 4 | _ => 5

def hiN (n : Nat) : Nat := match n with | 0 => 0 | _ => 1

def liN (n : Nat) : Nat := match n with | 2 => 4 | _ => 8

def dkN (z : Bool) : Nat := cond z 0 2

def lb5 (z : Bool) : Nat := cond z 5 8

def g_0_0_0 : List Cfg := [⟨0, 0, 8, 0, 0, 0, 2, false, false⟩, ⟨0, 1, 8, 0, 0, 0, 2, false, false⟩]

theorem ga_0_0_0 : AllB g_0_0_0 := ⟨b_0_0_8_0_0_0_2_0_0, b_0_1_8_0_0_0_2_0_0, trivial⟩

theorem gm_0_0_0 : ∀ (hb : Fin 2), memC ⟨0, hb.val, 8, 0, 0, 0, 2, false, false⟩ g_0_0_0 = true := by decide +kernel

def g_0_0_1 : List Cfg := [⟨0, 0, 8, 0, 0, 0, 2, false, true⟩, ⟨0, 1, 8, 0, 0, 0, 2, false, true⟩]

theorem ga_0_0_1 : AllB g_0_0_1 := ⟨b_0_0_8_0_0_0_2_0_1, b_0_1_8_0_0_0_2_0_1, trivial⟩

theorem gm_0_0_1 : ∀ (hb : Fin 2), memC ⟨0, hb.val, 8, 0, 0, 0, 2, false, true⟩ g_0_0_1 = true := by decide +kernel

def g_0_1_0 : List Cfg := [⟨0, 0, 8, 0, 0, 0, 2, true, false⟩, ⟨0, 1, 8, 0, 0, 0, 2, true, false⟩]

theorem ga_0_1_0 : AllB g_0_1_0 := ⟨b_0_0_8_0_0_0_2_1_0, b_0_1_8_0_0_0_2_1_0, trivial⟩

theorem gm_0_1_0 : ∀ (hb : Fin 2), memC ⟨0, hb.val, 8, 0, 0, 0, 2, true, false⟩ g_0_1_0 = true := by decide +kernel

def g_0_1_1 : List Cfg := [⟨0, 0, 8, 0, 0, 0, 2, true, true⟩, ⟨0, 1, 8, 0, 0, 0, 2, true, true⟩]

theorem ga_0_1_1 : AllB g_0_1_1 := ⟨b_0_0_8_0_0_0_2_1_1, b_0_1_8_0_0_0_2_1_1, trivial⟩

theorem gm_0_1_1 : ∀ (hb : Fin 2), memC ⟨0, hb.val, 8, 0, 0, 0, 2, true, true⟩ g_0_1_1 = true := by decide +kernel

def g_1_0_0 : List Cfg := [⟨1, 0, 0, 0, 0, 0, 0, false, false⟩, ⟨1, 0, 0, 0, 0, 0, 2, false, false⟩]

theorem ga_1_0_0 : AllB g_1_0_0 := ⟨b_1_0_0_0_0_0_0_0_0, b_1_0_0_0_0_0_2_0_0, trivial⟩

theorem gm_1_0_0 : ∀ (z : Bool), memC ⟨1, 0, 0, 0, 0, 0, dkN z, false, false⟩ g_1_0_0 = true := by decide +kernel

def g_1_0_1 : List Cfg := [⟨1, 0, 0, 0, 0, 0, 0, false, true⟩, ⟨1, 0, 0, 0, 0, 0, 2, false, true⟩]

theorem ga_1_0_1 : AllB g_1_0_1 := ⟨b_1_0_0_0_0_0_0_0_1, b_1_0_0_0_0_0_2_0_1, trivial⟩

theorem gm_1_0_1 : ∀ (z : Bool), memC ⟨1, 0, 0, 0, 0, 0, dkN z, false, true⟩ g_1_0_1 = true := by decide +kernel

def g_1_1_0 : List Cfg := [⟨1, 0, 0, 0, 0, 0, 0, true, false⟩, ⟨1, 0, 0, 0, 0, 0, 2, true, false⟩]

theorem ga_1_1_0 : AllB g_1_1_0 := ⟨b_1_0_0_0_0_0_0_1_0, b_1_0_0_0_0_0_2_1_0, trivial⟩

theorem gm_1_1_0 : ∀ (z : Bool), memC ⟨1, 0, 0, 0, 0, 0, dkN z, true, false⟩ g_1_1_0 = true := by decide +kernel

def g_1_1_1 : List Cfg := [⟨1, 0, 0, 0, 0, 0, 0, true, true⟩, ⟨1, 0, 0, 0, 0, 0, 2, true, true⟩]

theorem ga_1_1_1 : AllB g_1_1_1 := ⟨b_1_0_0_0_0_0_0_1_1, b_1_0_0_0_0_0_2_1_1, trivial⟩

theorem gm_1_1_1 : ∀ (z : Bool), memC ⟨1, 0, 0, 0, 0, 0, dkN z, true, true⟩ g_1_1_1 = true := by decide +kernel

def g_2_0_0 : List Cfg := [⟨2, 0, 0, 0, 0, 0, 0, false, false⟩, ⟨2, 0, 0, 0, 0, 0, 2, false, false⟩]

theorem ga_2_0_0 : AllB g_2_0_0 := ⟨b_2_0_0_0_0_0_0_0_0, b_2_0_0_0_0_0_2_0_0, trivial⟩

theorem gm_2_0_0 : ∀ (z : Bool), memC ⟨2, 0, 0, 0, 0, 0, dkN z, false, false⟩ g_2_0_0 = true := by decide +kernel

def g_2_0_1 : List Cfg := [⟨2, 0, 0, 0, 0, 0, 0, false, true⟩, ⟨2, 0, 0, 0, 0, 0, 2, false, true⟩]

theorem ga_2_0_1 : AllB g_2_0_1 := ⟨b_2_0_0_0_0_0_0_0_1, b_2_0_0_0_0_0_2_0_1, trivial⟩

theorem gm_2_0_1 : ∀ (z : Bool), memC ⟨2, 0, 0, 0, 0, 0, dkN z, false, true⟩ g_2_0_1 = true := by decide +kernel

def g_2_1_0 : List Cfg := [⟨2, 0, 0, 0, 0, 0, 0, true, false⟩, ⟨2, 0, 0, 0, 0, 0, 2, true, false⟩]

theorem ga_2_1_0 : AllB g_2_1_0 := ⟨b_2_0_0_0_0_0_0_1_0, b_2_0_0_0_0_0_2_1_0, trivial⟩

theorem gm_2_1_0 : ∀ (z : Bool), memC ⟨2, 0, 0, 0, 0, 0, dkN z, true, false⟩ g_2_1_0 = true := by decide +kernel

def g_2_1_1 : List Cfg := [⟨2, 0, 0, 0, 0, 0, 0, true, true⟩, ⟨2, 0, 0, 0, 0, 0, 2, true, true⟩]

theorem ga_2_1_1 : AllB g_2_1_1 := ⟨b_2_0_0_0_0_0_0_1_1, b_2_0_0_0_0_0_2_1_1, trivial⟩

theorem gm_2_1_1 : ∀ (z : Bool), memC ⟨2, 0, 0, 0, 0, 0, dkN z, true, true⟩ g_2_1_1 = true := by decide +kernel

def g_3_0_0 : List Cfg := [⟨3, 0, 8, 0, 0, 0, 0, false, false⟩, ⟨3, 0, 8, 0, 0, 0, 1, false, false⟩, ⟨3, 0, 8, 0, 0, 0, 2, false, false⟩, ⟨3, 0, 4, 0, 0, 0, 0, false, false⟩, ⟨3, 0, 4, 0, 0, 0, 1, false, false⟩, ⟨3, 0, 4, 0, 0, 0, 2, false, false⟩, ⟨3, 0, 5, 0, 0, 0, 0, false, false⟩, ⟨3, 0, 5, 0, 0, 0, 1, false, false⟩, ⟨3, 0, 5, 0, 0, 0, 2, false, false⟩, ⟨3, 1, 8, 0, 0, 0, 0, false, false⟩, ⟨3, 1, 8, 0, 0, 0, 1, false, false⟩, ⟨3, 1, 8, 0, 0, 0, 2, false, false⟩, ⟨3, 1, 4, 0, 0, 0, 0, false, false⟩, ⟨3, 1, 4, 0, 0, 0, 1, false, false⟩, ⟨3, 1, 4, 0, 0, 0, 2, false, false⟩, ⟨3, 1, 5, 0, 0, 0, 0, false, false⟩, ⟨3, 1, 5, 0, 0, 0, 1, false, false⟩, ⟨3, 1, 5, 0, 0, 0, 2, false, false⟩]

theorem ga_3_0_0 : AllB g_3_0_0 := ⟨b_3_0_8_0_0_0_0_0_0, b_3_0_8_0_0_0_1_0_0, b_3_0_8_0_0_0_2_0_0, b_3_0_4_0_0_0_0_0_0, b_3_0_4_0_0_0_1_0_0, b_3_0_4_0_0_0_2_0_0, b_3_0_5_0_0_0_0_0_0, b_3_0_5_0_0_0_1_0_0, b_3_0_5_0_0_0_2_0_0, b_3_1_8_0_0_0_0_0_0, b_3_1_8_0_0_0_1_0_0, b_3_1_8_0_0_0_2_0_0, b_3_1_4_0_0_0_0_0_0, b_3_1_4_0_0_0_1_0_0, b_3_1_4_0_0_0_2_0_0, b_3_1_5_0_0_0_0_0_0, b_3_1_5_0_0_0_1_0_0, b_3_1_5_0_0_0_2_0_0, trivial⟩

theorem gm_3_0_0 : ∀ (hb : Fin 2) (lb dk : Fin 3), memC ⟨3, hb.val, lbN lb.val, 0, 0, 0, dk.val, false, false⟩ g_3_0_0 = true := by decide +kernel

def g_3_0_1 : List Cfg := [⟨3, 0, 8, 0, 0, 0, 0, false, true⟩, ⟨3, 0, 8, 0, 0, 0, 1, false, true⟩, ⟨3, 0, 8, 0, 0, 0, 2, false, true⟩, ⟨3, 0, 4, 0, 0, 0, 0, false, true⟩, ⟨3, 0, 4, 0, 0, 0, 1, false, true⟩, ⟨3, 0, 4, 0, 0, 0, 2, false, true⟩, ⟨3, 0, 5, 0, 0, 0, 0, false, true⟩, ⟨3, 0, 5, 0, 0, 0, 1, false, true⟩, ⟨3, 0, 5, 0, 0, 0, 2, false, true⟩, ⟨3, 1, 8, 0, 0, 0, 0, false, true⟩, ⟨3, 1, 8, 0, 0, 0, 1, false, true⟩, ⟨3, 1, 8, 0, 0, 0, 2, false, true⟩, ⟨3, 1, 4, 0, 0, 0, 0, false, true⟩, ⟨3, 1, 4, 0, 0, 0, 1, false, true⟩, ⟨3, 1, 4, 0, 0, 0, 2, false, true⟩, ⟨3, 1, 5, 0, 0, 0, 0, false, true⟩, ⟨3, 1, 5, 0, 0, 0, 1, false, true⟩, ⟨3, 1, 5, 0, 0, 0, 2, false, true⟩]

theorem ga_3_0_1 : AllB g_3_0_1 := ⟨b_3_0_8_0_0_0_0_0_1, b_3_0_8_0_0_0_1_0_1, b_3_0_8_0_0_0_2_0_1, b_3_0_4_0_0_0_0_0_1, b_3_0_4_0_0_0_1_0_1, b_3_0_4_0_0_0_2_0_1, b_3_0_5_0_0_0_0_0_1, b_3_0_5_0_0_0_1_0_1, b_3_0_5_0_0_0_2_0_1, b_3_1_8_0_0_0_0_0_1, b_3_1_8_0_0_0_1_0_1, b_3_1_8_0_0_0_2_0_1, b_3_1_4_0_0_0_0_0_1, b_3_1_4_0_0_0_1_0_1, b_3_1_4_0_0_0_2_0_1, b_3_1_5_0_0_0_0_0_1, b_3_1_5_0_0_0_1_0_1, b_3_1_5_0_0_0_2_0_1, trivial⟩

theorem gm_3_0_1 : ∀ (hb : Fin 2) (lb dk : Fin 3), memC ⟨3, hb.val, lbN lb.val, 0, 0, 0, dk.val, false, true⟩ g_3_0_1 = true := by decide +kernel

def g_3_1_0 : List Cfg := [⟨3, 0, 8, 0, 0, 0, 0, true, false⟩, ⟨3, 0, 8, 0, 0, 0, 1, true, false⟩, ⟨3, 0, 8, 0, 0, 0, 2, true, false⟩, ⟨3, 0, 4, 0, 0, 0, 0, true, false⟩, ⟨3, 0, 4, 0, 0, 0, 1, true, false⟩, ⟨3, 0, 4, 0, 0, 0, 2, true, false⟩, ⟨3, 0, 5, 0, 0, 0, 0, true, false⟩, ⟨3, 0, 5, 0, 0, 0, 1, true, false⟩, ⟨3, 0, 5, 0, 0, 0, 2, true, false⟩, ⟨3, 1, 8, 0, 0, 0, 0, true, false⟩, ⟨3, 1, 8, 0, 0, 0, 1, true, false⟩, ⟨3, 1, 8, 0, 0, 0, 2, true, false⟩, ⟨3, 1, 4, 0, 0, 0, 0, true, false⟩, ⟨3, 1, 4, 0, 0, 0, 1, true, false⟩, ⟨3, 1, 4, 0, 0, 0, 2, true, false⟩, ⟨3, 1, 5, 0, 0, 0, 0, true, false⟩, ⟨3, 1, 5, 0, 0, 0, 1, true, false⟩, ⟨3, 1, 5, 0, 0, 0, 2, true, false⟩]

theorem ga_3_1_0 : AllB g_3_1_0 := ⟨b_3_0_8_0_0_0_0_1_0, b_3_0_8_0_0_0_1_1_0, b_3_0_8_0_0_0_2_1_0, b_3_0_4_0_0_0_0_1_0, b_3_0_4_0_0_0_1_1_0, b_3_0_4_0_0_0_2_1_0, b_3_0_5_0_0_0_0_1_0, b_3_0_5_0_0_0_1_1_0, b_3_0_5_0_0_0_2_1_0, b_3_1_8_0_0_0_0_1_0, b_3_1_8_0_0_0_1_1_0, b_3_1_8_0_0_0_2_1_0, b_3_1_4_0_0_0_0_1_0, b_3_1_4_0_0_0_1_1_0, b_3_1_4_0_0_0_2_1_0, b_3_1_5_0_0_0_0_1_0, b_3_1_5_0_0_0_1_1_0, b_3_1_5_0_0_0_2_1_0, trivial⟩

theorem gm_3_1_0 : ∀ (hb : Fin 2) (lb dk : Fin 3), memC ⟨3, hb.val, lbN lb.val, 0, 0, 0, dk.val, true, false⟩ g_3_1_0 = true := by decide +kernel

def g_3_1_1 : List Cfg := [⟨3, 0, 8, 0, 0, 0, 0, true, true⟩, ⟨3, 0, 8, 0, 0, 0, 1, true, true⟩, ⟨3, 0, 8, 0, 0, 0, 2, true, true⟩, ⟨3, 0, 4, 0, 0, 0, 0, true, true⟩, ⟨3, 0, 4, 0, 0, 0, 1, true, true⟩, ⟨3, 0, 4, 0, 0, 0, 2, true, true⟩, ⟨3, 0, 5, 0, 0, 0, 0, true, true⟩, ⟨3, 0, 5, 0, 0, 0, 1, true, true⟩, ⟨3, 0, 5, 0, 0, 0, 2, true, true⟩, ⟨3, 1, 8, 0, 0, 0, 0, true, true⟩, ⟨3, 1, 8, 0, 0, 0, 1, true, true⟩, ⟨3, 1, 8, 0, 0, 0, 2, true, true⟩, ⟨3, 1, 4, 0, 0, 0, 0, true, true⟩, ⟨3, 1, 4, 0, 0, 0, 1, true, true⟩, ⟨3, 1, 4, 0, 0, 0, 2, true, true⟩, ⟨3, 1, 5, 0, 0, 0, 0, true, true⟩, ⟨3, 1, 5, 0, 0, 0, 1, true, true⟩, ⟨3, 1, 5, 0, 0, 0, 2, true, true⟩]

theorem ga_3_1_1 : AllB g_3_1_1 := ⟨b_3_0_8_0_0_0_0_1_1, b_3_0_8_0_0_0_1_1_1, b_3_0_8_0_0_0_2_1_1, b_3_0_4_0_0_0_0_1_1, b_3_0_4_0_0_0_1_1_1, b_3_0_4_0_0_0_2_1_1, b_3_0_5_0_0_0_0_1_1, b_3_0_5_0_0_0_1_1_1, b_3_0_5_0_0_0_2_1_1, b_3_1_8_0_0_0_0_1_1, b_3_1_8_0_0_0_1_1_1, b_3_1_8_0_0_0_2_1_1, b_3_1_4_0_0_0_0_1_1, b_3_1_4_0_0_0_1_1_1, b_3_1_4_0_0_0_2_1_1, b_3_1_5_0_0_0_0_1_1, b_3_1_5_0_0_0_1_1_1, b_3_1_5_0_0_0_2_1_1, trivial⟩

theorem gm_3_1_1 : ∀ (hb : Fin 2) (lb dk : Fin 3), memC ⟨3, hb.val, lbN lb.val, 0, 0, 0, dk.val, true, true⟩ g_3_1_1 = true := by decide +kernel

def g_4_0_0 : List Cfg := [⟨4, 0, 0, 0, 8, 1, 0, false, false⟩, ⟨4, 0, 0, 0, 8, 1, 2, false, false⟩, ⟨4, 0, 0, 0, 8, 2, 0, false, false⟩, ⟨4, 0, 0, 0, 8, 2, 2, false, false⟩, ⟨4, 0, 0, 0, 8, 3, 0, false, false⟩, ⟨4, 0, 0, 0, 8, 3, 2, false, false⟩, ⟨4, 0, 0, 1, 8, 1, 0, false, false⟩, ⟨4, 0, 0, 1, 8, 1, 2, false, false⟩, ⟨4, 0, 0, 1, 8, 2, 0, false, false⟩, ⟨4, 0, 0, 1, 8, 2, 2, false, false⟩, ⟨4, 0, 0, 1, 8, 3, 0, false, false⟩, ⟨4, 0, 0, 1, 8, 3, 2, false, false⟩, ⟨4, 0, 0, 1, 4, 1, 0, false, false⟩, ⟨4, 0, 0, 1, 4, 1, 2, false, false⟩, ⟨4, 0, 0, 1, 4, 2, 0, false, false⟩, ⟨4, 0, 0, 1, 4, 2, 2, false, false⟩, ⟨4, 0, 0, 1, 4, 3, 0, false, false⟩, ⟨4, 0, 0, 1, 4, 3, 2, false, false⟩]

theorem ga_4_0_0 : AllB g_4_0_0 := ⟨b_4_0_0_0_8_1_0_0_0, b_4_0_0_0_8_1_2_0_0, b_4_0_0_0_8_2_0_0_0, b_4_0_0_0_8_2_2_0_0, b_4_0_0_0_8_3_0_0_0, b_4_0_0_0_8_3_2_0_0, b_4_0_0_1_8_1_0_0_0, b_4_0_0_1_8_1_2_0_0, b_4_0_0_1_8_2_0_0_0, b_4_0_0_1_8_2_2_0_0, b_4_0_0_1_8_3_0_0_0, b_4_0_0_1_8_3_2_0_0, b_4_0_0_1_4_1_0_0_0, b_4_0_0_1_4_1_2_0_0, b_4_0_0_1_4_2_0_0_0, b_4_0_0_1_4_2_2_0_0, b_4_0_0_1_4_3_0_0_0, b_4_0_0_1_4_3_2_0_0, trivial⟩

theorem gm_4_0_0 : ∀ (i s : Fin 3) (z : Bool), memC ⟨4, 0, 0, hiN i.val, liN i.val, s.val + 1, dkN z, false, false⟩ g_4_0_0 = true := by decide +kernel

def g_4_0_1 : List Cfg := [⟨4, 0, 0, 0, 8, 1, 0, false, true⟩, ⟨4, 0, 0, 0, 8, 1, 2, false, true⟩, ⟨4, 0, 0, 0, 8, 2, 0, false, true⟩, ⟨4, 0, 0, 0, 8, 2, 2, false, true⟩, ⟨4, 0, 0, 0, 8, 3, 0, false, true⟩, ⟨4, 0, 0, 0, 8, 3, 2, false, true⟩, ⟨4, 0, 0, 1, 8, 1, 0, false, true⟩, ⟨4, 0, 0, 1, 8, 1, 2, false, true⟩, ⟨4, 0, 0, 1, 8, 2, 0, false, true⟩, ⟨4, 0, 0, 1, 8, 2, 2, false, true⟩, ⟨4, 0, 0, 1, 8, 3, 0, false, true⟩, ⟨4, 0, 0, 1, 8, 3, 2, false, true⟩, ⟨4, 0, 0, 1, 4, 1, 0, false, true⟩, ⟨4, 0, 0, 1, 4, 1, 2, false, true⟩, ⟨4, 0, 0, 1, 4, 2, 0, false, true⟩, ⟨4, 0, 0, 1, 4, 2, 2, false, true⟩, ⟨4, 0, 0, 1, 4, 3, 0, false, true⟩, ⟨4, 0, 0, 1, 4, 3, 2, false, true⟩]

theorem ga_4_0_1 : AllB g_4_0_1 := ⟨b_4_0_0_0_8_1_0_0_1, b_4_0_0_0_8_1_2_0_1, b_4_0_0_0_8_2_0_0_1, b_4_0_0_0_8_2_2_0_1, b_4_0_0_0_8_3_0_0_1, b_4_0_0_0_8_3_2_0_1, b_4_0_0_1_8_1_0_0_1, b_4_0_0_1_8_1_2_0_1, b_4_0_0_1_8_2_0_0_1, b_4_0_0_1_8_2_2_0_1, b_4_0_0_1_8_3_0_0_1, b_4_0_0_1_8_3_2_0_1, b_4_0_0_1_4_1_0_0_1, b_4_0_0_1_4_1_2_0_1, b_4_0_0_1_4_2_0_0_1, b_4_0_0_1_4_2_2_0_1, b_4_0_0_1_4_3_0_0_1, b_4_0_0_1_4_3_2_0_1, trivial⟩

theorem gm_4_0_1 : ∀ (i s : Fin 3) (z : Bool), memC ⟨4, 0, 0, hiN i.val, liN i.val, s.val + 1, dkN z, false, true⟩ g_4_0_1 = true := by decide +kernel

def g_4_1_0 : List Cfg := [⟨4, 0, 0, 0, 8, 1, 0, true, false⟩, ⟨4, 0, 0, 0, 8, 1, 2, true, false⟩, ⟨4, 0, 0, 0, 8, 2, 0, true, false⟩, ⟨4, 0, 0, 0, 8, 2, 2, true, false⟩, ⟨4, 0, 0, 0, 8, 3, 0, true, false⟩, ⟨4, 0, 0, 0, 8, 3, 2, true, false⟩, ⟨4, 0, 0, 1, 8, 1, 0, true, false⟩, ⟨4, 0, 0, 1, 8, 1, 2, true, false⟩, ⟨4, 0, 0, 1, 8, 2, 0, true, false⟩, ⟨4, 0, 0, 1, 8, 2, 2, true, false⟩, ⟨4, 0, 0, 1, 8, 3, 0, true, false⟩, ⟨4, 0, 0, 1, 8, 3, 2, true, false⟩, ⟨4, 0, 0, 1, 4, 1, 0, true, false⟩, ⟨4, 0, 0, 1, 4, 1, 2, true, false⟩, ⟨4, 0, 0, 1, 4, 2, 0, true, false⟩, ⟨4, 0, 0, 1, 4, 2, 2, true, false⟩, ⟨4, 0, 0, 1, 4, 3, 0, true, false⟩, ⟨4, 0, 0, 1, 4, 3, 2, true, false⟩]

theorem ga_4_1_0 : AllB g_4_1_0 := ⟨b_4_0_0_0_8_1_0_1_0, b_4_0_0_0_8_1_2_1_0, b_4_0_0_0_8_2_0_1_0, b_4_0_0_0_8_2_2_1_0, b_4_0_0_0_8_3_0_1_0, b_4_0_0_0_8_3_2_1_0, b_4_0_0_1_8_1_0_1_0, b_4_0_0_1_8_1_2_1_0, b_4_0_0_1_8_2_0_1_0, b_4_0_0_1_8_2_2_1_0, b_4_0_0_1_8_3_0_1_0, b_4_0_0_1_8_3_2_1_0, b_4_0_0_1_4_1_0_1_0, b_4_0_0_1_4_1_2_1_0, b_4_0_0_1_4_2_0_1_0, b_4_0_0_1_4_2_2_1_0, b_4_0_0_1_4_3_0_1_0, b_4_0_0_1_4_3_2_1_0, trivial⟩

theorem gm_4_1_0 : ∀ (i s : Fin 3) (z : Bool), memC ⟨4, 0, 0, hiN i.val, liN i.val, s.val + 1, dkN z, true, false⟩ g_4_1_0 = true := by decide +kernel

def g_4_1_1 : List Cfg := [⟨4, 0, 0, 0, 8, 1, 0, true, true⟩, ⟨4, 0, 0, 0, 8, 1, 2, true, true⟩, ⟨4, 0, 0, 0, 8, 2, 0, true, true⟩, ⟨4, 0, 0, 0, 8, 2, 2, true, true⟩, ⟨4, 0, 0, 0, 8, 3, 0, true, true⟩, ⟨4, 0, 0, 0, 8, 3, 2, true, true⟩, ⟨4, 0, 0, 1, 8, 1, 0, true, true⟩, ⟨4, 0, 0, 1, 8, 1, 2, true, true⟩, ⟨4, 0, 0, 1, 8, 2, 0, true, true⟩, ⟨4, 0, 0, 1, 8, 2, 2, true, true⟩, ⟨4, 0, 0, 1, 8, 3, 0, true, true⟩, ⟨4, 0, 0, 1, 8, 3, 2, true, true⟩, ⟨4, 0, 0, 1, 4, 1, 0, true, true⟩, ⟨4, 0, 0, 1, 4, 1, 2, true, true⟩, ⟨4, 0, 0, 1, 4, 2, 0, true, true⟩, ⟨4, 0, 0, 1, 4, 2, 2, true, true⟩, ⟨4, 0, 0, 1, 4, 3, 0, true, true⟩, ⟨4, 0, 0, 1, 4, 3, 2, true, true⟩]

theorem ga_4_1_1 : AllB g_4_1_1 := ⟨b_4_0_0_0_8_1_0_1_1, b_4_0_0_0_8_1_2_1_1, b_4_0_0_0_8_2_0_1_1, b_4_0_0_0_8_2_2_1_1, b_4_0_0_0_8_3_0_1_1, b_4_0_0_0_8_3_2_1_1, b_4_0_0_1_8_1_0_1_1, b_4_0_0_1_8_1_2_1_1, b_4_0_0_1_8_2_0_1_1, b_4_0_0_1_8_2_2_1_1, b_4_0_0_1_8_3_0_1_1, b_4_0_0_1_8_3_2_1_1, b_4_0_0_1_4_1_0_1_1, b_4_0_0_1_4_1_2_1_1, b_4_0_0_1_4_2_0_1_1, b_4_0_0_1_4_2_2_1_1, b_4_0_0_1_4_3_0_1_1, b_4_0_0_1_4_3_2_1_1, trivial⟩

theorem gm_4_1_1 : ∀ (i s : Fin 3) (z : Bool), memC ⟨4, 0, 0, hiN i.val, liN i.val, s.val + 1, dkN z, true, true⟩ g_4_1_1 = true := by decide +kernel

def g_5_0_0_0_0 : List Cfg := [⟨5, 0, 8, 0, 8, 0, 0, false, false⟩, ⟨5, 0, 8, 0, 8, 0, 1, false, false⟩, ⟨5, 0, 8, 0, 8, 0, 2, false, false⟩, ⟨5, 0, 8, 0, 8, 1, 0, false, false⟩, ⟨5, 0, 8, 0, 8, 1, 1, false, false⟩, ⟨5, 0, 8, 0, 8, 1, 2, false, false⟩, ⟨5, 0, 8, 0, 8, 2, 0, false, false⟩, ⟨5, 0, 8, 0, 8, 2, 1, false, false⟩, ⟨5, 0, 8, 0, 8, 2, 2, false, false⟩, ⟨5, 0, 8, 0, 8, 3, 0, false, false⟩, ⟨5, 0, 8, 0, 8, 3, 1, false, false⟩, ⟨5, 0, 8, 0, 8, 3, 2, false, false⟩, ⟨5, 0, 5, 0, 8, 0, 0, false, false⟩, ⟨5, 0, 5, 0, 8, 0, 1, false, false⟩, ⟨5, 0, 5, 0, 8, 0, 2, false, false⟩, ⟨5, 0, 5, 0, 8, 1, 0, false, false⟩, ⟨5, 0, 5, 0, 8, 1, 1, false, false⟩, ⟨5, 0, 5, 0, 8, 1, 2, false, false⟩, ⟨5, 0, 5, 0, 8, 2, 0, false, false⟩, ⟨5, 0, 5, 0, 8, 2, 1, false, false⟩, ⟨5, 0, 5, 0, 8, 2, 2, false, false⟩, ⟨5, 0, 5, 0, 8, 3, 0, false, false⟩, ⟨5, 0, 5, 0, 8, 3, 1, false, false⟩, ⟨5, 0, 5, 0, 8, 3, 2, false, false⟩]

theorem ga_5_0_0_0_0 : AllB g_5_0_0_0_0 := ⟨b_5_0_8_0_8_0_0_0_0, b_5_0_8_0_8_0_1_0_0, b_5_0_8_0_8_0_2_0_0, b_5_0_8_0_8_1_0_0_0, b_5_0_8_0_8_1_1_0_0, b_5_0_8_0_8_1_2_0_0, b_5_0_8_0_8_2_0_0_0, b_5_0_8_0_8_2_1_0_0, b_5_0_8_0_8_2_2_0_0, b_5_0_8_0_8_3_0_0_0, b_5_0_8_0_8_3_1_0_0, b_5_0_8_0_8_3_2_0_0, b_5_0_5_0_8_0_0_0_0, b_5_0_5_0_8_0_1_0_0, b_5_0_5_0_8_0_2_0_0, b_5_0_5_0_8_1_0_0_0, b_5_0_5_0_8_1_1_0_0, b_5_0_5_0_8_1_2_0_0, b_5_0_5_0_8_2_0_0_0, b_5_0_5_0_8_2_1_0_0, b_5_0_5_0_8_2_2_0_0, b_5_0_5_0_8_3_0_0_0, b_5_0_5_0_8_3_1_0_0, b_5_0_5_0_8_3_2_0_0, trivial⟩

theorem gm_5_0_0_0_0 : ∀ (l4 : Bool) (ss : Fin 4) (dk : Fin 3) (z : Bool), memC ⟨5, 0, lb5 z, 0, 8, ss.val, dk.val, false, false⟩ g_5_0_0_0_0 = true := by decide +kernel

def g_5_0_0_0_1 : List Cfg := [⟨5, 0, 8, 1, 8, 0, 0, false, false⟩, ⟨5, 0, 8, 1, 8, 0, 1, false, false⟩, ⟨5, 0, 8, 1, 8, 0, 2, false, false⟩, ⟨5, 0, 8, 1, 8, 1, 0, false, false⟩, ⟨5, 0, 8, 1, 8, 1, 1, false, false⟩, ⟨5, 0, 8, 1, 8, 1, 2, false, false⟩, ⟨5, 0, 8, 1, 8, 2, 0, false, false⟩, ⟨5, 0, 8, 1, 8, 2, 1, false, false⟩, ⟨5, 0, 8, 1, 8, 2, 2, false, false⟩, ⟨5, 0, 8, 1, 8, 3, 0, false, false⟩, ⟨5, 0, 8, 1, 8, 3, 1, false, false⟩, ⟨5, 0, 8, 1, 8, 3, 2, false, false⟩, ⟨5, 0, 5, 1, 8, 0, 0, false, false⟩, ⟨5, 0, 5, 1, 8, 0, 1, false, false⟩, ⟨5, 0, 5, 1, 8, 0, 2, false, false⟩, ⟨5, 0, 5, 1, 8, 1, 0, false, false⟩, ⟨5, 0, 5, 1, 8, 1, 1, false, false⟩, ⟨5, 0, 5, 1, 8, 1, 2, false, false⟩, ⟨5, 0, 5, 1, 8, 2, 0, false, false⟩, ⟨5, 0, 5, 1, 8, 2, 1, false, false⟩, ⟨5, 0, 5, 1, 8, 2, 2, false, false⟩, ⟨5, 0, 5, 1, 8, 3, 0, false, false⟩, ⟨5, 0, 5, 1, 8, 3, 1, false, false⟩, ⟨5, 0, 5, 1, 8, 3, 2, false, false⟩, ⟨5, 0, 8, 1, 4, 0, 0, false, false⟩, ⟨5, 0, 8, 1, 4, 0, 1, false, false⟩, ⟨5, 0, 8, 1, 4, 0, 2, false, false⟩, ⟨5, 0, 8, 1, 4, 1, 0, false, false⟩, ⟨5, 0, 8, 1, 4, 1, 1, false, false⟩, ⟨5, 0, 8, 1, 4, 1, 2, false, false⟩, ⟨5, 0, 8, 1, 4, 2, 0, false, false⟩, ⟨5, 0, 8, 1, 4, 2, 1, false, false⟩, ⟨5, 0, 8, 1, 4, 2, 2, false, false⟩, ⟨5, 0, 8, 1, 4, 3, 0, false, false⟩, ⟨5, 0, 8, 1, 4, 3, 1, false, false⟩, ⟨5, 0, 8, 1, 4, 3, 2, false, false⟩, ⟨5, 0, 5, 1, 4, 0, 0, false, false⟩, ⟨5, 0, 5, 1, 4, 0, 1, false, false⟩, ⟨5, 0, 5, 1, 4, 0, 2, false, false⟩, ⟨5, 0, 5, 1, 4, 1, 0, false, false⟩, ⟨5, 0, 5, 1, 4, 1, 1, false, false⟩, ⟨5, 0, 5, 1, 4, 1, 2, false, false⟩, ⟨5, 0, 5, 1, 4, 2, 0, false, false⟩, ⟨5, 0, 5, 1, 4, 2, 1, false, false⟩, ⟨5, 0, 5, 1, 4, 2, 2, false, false⟩, ⟨5, 0, 5, 1, 4, 3, 0, false, false⟩, ⟨5, 0, 5, 1, 4, 3, 1, false, false⟩, ⟨5, 0, 5, 1, 4, 3, 2, false, false⟩]

theorem ga_5_0_0_0_1 : AllB g_5_0_0_0_1 := ⟨b_5_0_8_1_8_0_0_0_0, b_5_0_8_1_8_0_1_0_0, b_5_0_8_1_8_0_2_0_0, b_5_0_8_1_8_1_0_0_0, b_5_0_8_1_8_1_1_0_0, b_5_0_8_1_8_1_2_0_0, b_5_0_8_1_8_2_0_0_0, b_5_0_8_1_8_2_1_0_0, b_5_0_8_1_8_2_2_0_0, b_5_0_8_1_8_3_0_0_0, b_5_0_8_1_8_3_1_0_0, b_5_0_8_1_8_3_2_0_0, b_5_0_5_1_8_0_0_0_0, b_5_0_5_1_8_0_1_0_0, b_5_0_5_1_8_0_2_0_0, b_5_0_5_1_8_1_0_0_0, b_5_0_5_1_8_1_1_0_0, b_5_0_5_1_8_1_2_0_0, b_5_0_5_1_8_2_0_0_0, b_5_0_5_1_8_2_1_0_0, b_5_0_5_1_8_2_2_0_0, b_5_0_5_1_8_3_0_0_0, b_5_0_5_1_8_3_1_0_0, b_5_0_5_1_8_3_2_0_0, b_5_0_8_1_4_0_0_0_0, b_5_0_8_1_4_0_1_0_0, b_5_0_8_1_4_0_2_0_0, b_5_0_8_1_4_1_0_0_0, b_5_0_8_1_4_1_1_0_0, b_5_0_8_1_4_1_2_0_0, b_5_0_8_1_4_2_0_0_0, b_5_0_8_1_4_2_1_0_0, b_5_0_8_1_4_2_2_0_0, b_5_0_8_1_4_3_0_0_0, b_5_0_8_1_4_3_1_0_0, b_5_0_8_1_4_3_2_0_0, b_5_0_5_1_4_0_0_0_0, b_5_0_5_1_4_0_1_0_0, b_5_0_5_1_4_0_2_0_0, b_5_0_5_1_4_1_0_0_0, b_5_0_5_1_4_1_1_0_0, b_5_0_5_1_4_1_2_0_0, b_5_0_5_1_4_2_0_0_0, b_5_0_5_1_4_2_1_0_0, b_5_0_5_1_4_2_2_0_0, b_5_0_5_1_4_3_0_0_0, b_5_0_5_1_4_3_1_0_0, b_5_0_5_1_4_3_2_0_0, trivial⟩

theorem gm_5_0_0_0_1 : ∀ (l4 : Bool) (ss : Fin 4) (dk : Fin 3) (z : Bool), memC ⟨5, 0, lb5 z, 1, (cond l4 4 8), ss.val, dk.val, false, false⟩ g_5_0_0_0_1 = true := by decide +kernel

def g_5_0_0_1_0 : List Cfg := [⟨5, 1, 8, 0, 8, 0, 0, false, false⟩, ⟨5, 1, 8, 0, 8, 0, 1, false, false⟩, ⟨5, 1, 8, 0, 8, 0, 2, false, false⟩, ⟨5, 1, 8, 0, 8, 1, 0, false, false⟩, ⟨5, 1, 8, 0, 8, 1, 1, false, false⟩, ⟨5, 1, 8, 0, 8, 1, 2, false, false⟩, ⟨5, 1, 8, 0, 8, 2, 0, false, false⟩, ⟨5, 1, 8, 0, 8, 2, 1, false, false⟩, ⟨5, 1, 8, 0, 8, 2, 2, false, false⟩, ⟨5, 1, 8, 0, 8, 3, 0, false, false⟩, ⟨5, 1, 8, 0, 8, 3, 1, false, false⟩, ⟨5, 1, 8, 0, 8, 3, 2, false, false⟩, ⟨5, 1, 5, 0, 8, 0, 0, false, false⟩, ⟨5, 1, 5, 0, 8, 0, 1, false, false⟩, ⟨5, 1, 5, 0, 8, 0, 2, false, false⟩, ⟨5, 1, 5, 0, 8, 1, 0, false, false⟩, ⟨5, 1, 5, 0, 8, 1, 1, false, false⟩, ⟨5, 1, 5, 0, 8, 1, 2, false, false⟩, ⟨5, 1, 5, 0, 8, 2, 0, false, false⟩, ⟨5, 1, 5, 0, 8, 2, 1, false, false⟩, ⟨5, 1, 5, 0, 8, 2, 2, false, false⟩, ⟨5, 1, 5, 0, 8, 3, 0, false, false⟩, ⟨5, 1, 5, 0, 8, 3, 1, false, false⟩, ⟨5, 1, 5, 0, 8, 3, 2, false, false⟩]

theorem ga_5_0_0_1_0 : AllB g_5_0_0_1_0 := ⟨b_5_1_8_0_8_0_0_0_0, b_5_1_8_0_8_0_1_0_0, b_5_1_8_0_8_0_2_0_0, b_5_1_8_0_8_1_0_0_0, b_5_1_8_0_8_1_1_0_0, b_5_1_8_0_8_1_2_0_0, b_5_1_8_0_8_2_0_0_0, b_5_1_8_0_8_2_1_0_0, b_5_1_8_0_8_2_2_0_0, b_5_1_8_0_8_3_0_0_0, b_5_1_8_0_8_3_1_0_0, b_5_1_8_0_8_3_2_0_0, b_5_1_5_0_8_0_0_0_0, b_5_1_5_0_8_0_1_0_0, b_5_1_5_0_8_0_2_0_0, b_5_1_5_0_8_1_0_0_0, b_5_1_5_0_8_1_1_0_0, b_5_1_5_0_8_1_2_0_0, b_5_1_5_0_8_2_0_0_0, b_5_1_5_0_8_2_1_0_0, b_5_1_5_0_8_2_2_0_0, b_5_1_5_0_8_3_0_0_0, b_5_1_5_0_8_3_1_0_0, b_5_1_5_0_8_3_2_0_0, trivial⟩

theorem gm_5_0_0_1_0 : ∀ (l4 : Bool) (ss : Fin 4) (dk : Fin 3) (z : Bool), memC ⟨5, 1, lb5 z, 0, 8, ss.val, dk.val, false, false⟩ g_5_0_0_1_0 = true := by decide +kernel

def g_5_0_0_1_1 : List Cfg := [⟨5, 1, 8, 1, 8, 0, 0, false, false⟩, ⟨5, 1, 8, 1, 8, 0, 1, false, false⟩, ⟨5, 1, 8, 1, 8, 0, 2, false, false⟩, ⟨5, 1, 8, 1, 8, 1, 0, false, false⟩, ⟨5, 1, 8, 1, 8, 1, 1, false, false⟩, ⟨5, 1, 8, 1, 8, 1, 2, false, false⟩, ⟨5, 1, 8, 1, 8, 2, 0, false, false⟩, ⟨5, 1, 8, 1, 8, 2, 1, false, false⟩, ⟨5, 1, 8, 1, 8, 2, 2, false, false⟩, ⟨5, 1, 8, 1, 8, 3, 0, false, false⟩, ⟨5, 1, 8, 1, 8, 3, 1, false, false⟩, ⟨5, 1, 8, 1, 8, 3, 2, false, false⟩, ⟨5, 1, 5, 1, 8, 0, 0, false, false⟩, ⟨5, 1, 5, 1, 8, 0, 1, false, false⟩, ⟨5, 1, 5, 1, 8, 0, 2, false, false⟩, ⟨5, 1, 5, 1, 8, 1, 0, false, false⟩, ⟨5, 1, 5, 1, 8, 1, 1, false, false⟩, ⟨5, 1, 5, 1, 8, 1, 2, false, false⟩, ⟨5, 1, 5, 1, 8, 2, 0, false, false⟩, ⟨5, 1, 5, 1, 8, 2, 1, false, false⟩, ⟨5, 1, 5, 1, 8, 2, 2, false, false⟩, ⟨5, 1, 5, 1, 8, 3, 0, false, false⟩, ⟨5, 1, 5, 1, 8, 3, 1, false, false⟩, ⟨5, 1, 5, 1, 8, 3, 2, false, false⟩, ⟨5, 1, 8, 1, 4, 0, 0, false, false⟩, ⟨5, 1, 8, 1, 4, 0, 1, false, false⟩, ⟨5, 1, 8, 1, 4, 0, 2, false, false⟩, ⟨5, 1, 8, 1, 4, 1, 0, false, false⟩, ⟨5, 1, 8, 1, 4, 1, 1, false, false⟩, ⟨5, 1, 8, 1, 4, 1, 2, false, false⟩, ⟨5, 1, 8, 1, 4, 2, 0, false, false⟩, ⟨5, 1, 8, 1, 4, 2, 1, false, false⟩, ⟨5, 1, 8, 1, 4, 2, 2, false, false⟩, ⟨5, 1, 8, 1, 4, 3, 0, false, false⟩, ⟨5, 1, 8, 1, 4, 3, 1, false, false⟩, ⟨5, 1, 8, 1, 4, 3, 2, false, false⟩, ⟨5, 1, 5, 1, 4, 0, 0, false, false⟩, ⟨5, 1, 5, 1, 4, 0, 1, false, false⟩, ⟨5, 1, 5, 1, 4, 0, 2, false, false⟩, ⟨5, 1, 5, 1, 4, 1, 0, false, false⟩, ⟨5, 1, 5, 1, 4, 1, 1, false, false⟩, ⟨5, 1, 5, 1, 4, 1, 2, false, false⟩, ⟨5, 1, 5, 1, 4, 2, 0, false, false⟩, ⟨5, 1, 5, 1, 4, 2, 1, false, false⟩, ⟨5, 1, 5, 1, 4, 2, 2, false, false⟩, ⟨5, 1, 5, 1, 4, 3, 0, false, false⟩, ⟨5, 1, 5, 1, 4, 3, 1, false, false⟩, ⟨5, 1, 5, 1, 4, 3, 2, false, false⟩]

theorem ga_5_0_0_1_1 : AllB g_5_0_0_1_1 := ⟨b_5_1_8_1_8_0_0_0_0, b_5_1_8_1_8_0_1_0_0, b_5_1_8_1_8_0_2_0_0, b_5_1_8_1_8_1_0_0_0, b_5_1_8_1_8_1_1_0_0, b_5_1_8_1_8_1_2_0_0, b_5_1_8_1_8_2_0_0_0, b_5_1_8_1_8_2_1_0_0, b_5_1_8_1_8_2_2_0_0, b_5_1_8_1_8_3_0_0_0, b_5_1_8_1_8_3_1_0_0, b_5_1_8_1_8_3_2_0_0, b_5_1_5_1_8_0_0_0_0, b_5_1_5_1_8_0_1_0_0, b_5_1_5_1_8_0_2_0_0, b_5_1_5_1_8_1_0_0_0, b_5_1_5_1_8_1_1_0_0, b_5_1_5_1_8_1_2_0_0, b_5_1_5_1_8_2_0_0_0, b_5_1_5_1_8_2_1_0_0, b_5_1_5_1_8_2_2_0_0, b_5_1_5_1_8_3_0_0_0, b_5_1_5_1_8_3_1_0_0, b_5_1_5_1_8_3_2_0_0, b_5_1_8_1_4_0_0_0_0, b_5_1_8_1_4_0_1_0_0, b_5_1_8_1_4_0_2_0_0, b_5_1_8_1_4_1_0_0_0, b_5_1_8_1_4_1_1_0_0, b_5_1_8_1_4_1_2_0_0, b_5_1_8_1_4_2_0_0_0, b_5_1_8_1_4_2_1_0_0, b_5_1_8_1_4_2_2_0_0, b_5_1_8_1_4_3_0_0_0, b_5_1_8_1_4_3_1_0_0, b_5_1_8_1_4_3_2_0_0, b_5_1_5_1_4_0_0_0_0, b_5_1_5_1_4_0_1_0_0, b_5_1_5_1_4_0_2_0_0, b_5_1_5_1_4_1_0_0_0, b_5_1_5_1_4_1_1_0_0, b_5_1_5_1_4_1_2_0_0, b_5_1_5_1_4_2_0_0_0, b_5_1_5_1_4_2_1_0_0, b_5_1_5_1_4_2_2_0_0, b_5_1_5_1_4_3_0_0_0, b_5_1_5_1_4_3_1_0_0, b_5_1_5_1_4_3_2_0_0, trivial⟩

theorem gm_5_0_0_1_1 : ∀ (l4 : Bool) (ss : Fin 4) (dk : Fin 3) (z : Bool), memC ⟨5, 1, lb5 z, 1, (cond l4 4 8), ss.val, dk.val, false, false⟩ g_5_0_0_1_1 = true := by decide +kernel

def g_5_0_1_0_0 : List Cfg := [⟨5, 0, 8, 0, 8, 0, 0, false, true⟩, ⟨5, 0, 8, 0, 8, 0, 1, false, true⟩, ⟨5, 0, 8, 0, 8, 0, 2, false, true⟩, ⟨5, 0, 8, 0, 8, 1, 0, false, true⟩, ⟨5, 0, 8, 0, 8, 1, 1, false, true⟩, ⟨5, 0, 8, 0, 8, 1, 2, false, true⟩, ⟨5, 0, 8, 0, 8, 2, 0, false, true⟩, ⟨5, 0, 8, 0, 8, 2, 1, false, true⟩, ⟨5, 0, 8, 0, 8, 2, 2, false, true⟩, ⟨5, 0, 8, 0, 8, 3, 0, false, true⟩, ⟨5, 0, 8, 0, 8, 3, 1, false, true⟩, ⟨5, 0, 8, 0, 8, 3, 2, false, true⟩, ⟨5, 0, 5, 0, 8, 0, 0, false, true⟩, ⟨5, 0, 5, 0, 8, 0, 1, false, true⟩, ⟨5, 0, 5, 0, 8, 0, 2, false, true⟩, ⟨5, 0, 5, 0, 8, 1, 0, false, true⟩, ⟨5, 0, 5, 0, 8, 1, 1, false, true⟩, ⟨5, 0, 5, 0, 8, 1, 2, false, true⟩, ⟨5, 0, 5, 0, 8, 2, 0, false, true⟩, ⟨5, 0, 5, 0, 8, 2, 1, false, true⟩, ⟨5, 0, 5, 0, 8, 2, 2, false, true⟩, ⟨5, 0, 5, 0, 8, 3, 0, false, true⟩, ⟨5, 0, 5, 0, 8, 3, 1, false, true⟩, ⟨5, 0, 5, 0, 8, 3, 2, false, true⟩]

theorem ga_5_0_1_0_0 : AllB g_5_0_1_0_0 := ⟨b_5_0_8_0_8_0_0_0_1, b_5_0_8_0_8_0_1_0_1, b_5_0_8_0_8_0_2_0_1, b_5_0_8_0_8_1_0_0_1, b_5_0_8_0_8_1_1_0_1, b_5_0_8_0_8_1_2_0_1, b_5_0_8_0_8_2_0_0_1, b_5_0_8_0_8_2_1_0_1, b_5_0_8_0_8_2_2_0_1, b_5_0_8_0_8_3_0_0_1, b_5_0_8_0_8_3_1_0_1, b_5_0_8_0_8_3_2_0_1, b_5_0_5_0_8_0_0_0_1, b_5_0_5_0_8_0_1_0_1, b_5_0_5_0_8_0_2_0_1, b_5_0_5_0_8_1_0_0_1, b_5_0_5_0_8_1_1_0_1, b_5_0_5_0_8_1_2_0_1, b_5_0_5_0_8_2_0_0_1, b_5_0_5_0_8_2_1_0_1, b_5_0_5_0_8_2_2_0_1, b_5_0_5_0_8_3_0_0_1, b_5_0_5_0_8_3_1_0_1, b_5_0_5_0_8_3_2_0_1, trivial⟩

theorem gm_5_0_1_0_0 : ∀ (l4 : Bool) (ss : Fin 4) (dk : Fin 3) (z : Bool), memC ⟨5, 0, lb5 z, 0, 8, ss.val, dk.val, false, true⟩ g_5_0_1_0_0 = true := by decide +kernel

def g_5_0_1_0_1 : List Cfg := [⟨5, 0, 8, 1, 8, 0, 0, false, true⟩, ⟨5, 0, 8, 1, 8, 0, 1, false, true⟩, ⟨5, 0, 8, 1, 8, 0, 2, false, true⟩, ⟨5, 0, 8, 1, 8, 1, 0, false, true⟩, ⟨5, 0, 8, 1, 8, 1, 1, false, true⟩, ⟨5, 0, 8, 1, 8, 1, 2, false, true⟩, ⟨5, 0, 8, 1, 8, 2, 0, false, true⟩, ⟨5, 0, 8, 1, 8, 2, 1, false, true⟩, ⟨5, 0, 8, 1, 8, 2, 2, false, true⟩, ⟨5, 0, 8, 1, 8, 3, 0, false, true⟩, ⟨5, 0, 8, 1, 8, 3, 1, false, true⟩, ⟨5, 0, 8, 1, 8, 3, 2, false, true⟩, ⟨5, 0, 5, 1, 8, 0, 0, false, true⟩, ⟨5, 0, 5, 1, 8, 0, 1, false, true⟩, ⟨5, 0, 5, 1, 8, 0, 2, false, true⟩, ⟨5, 0, 5, 1, 8, 1, 0, false, true⟩, ⟨5, 0, 5, 1, 8, 1, 1, false, true⟩, ⟨5, 0, 5, 1, 8, 1, 2, false, true⟩, ⟨5, 0, 5, 1, 8, 2, 0, false, true⟩, ⟨5, 0, 5, 1, 8, 2, 1, false, true⟩, ⟨5, 0, 5, 1, 8, 2, 2, false, true⟩, ⟨5, 0, 5, 1, 8, 3, 0, false, true⟩, ⟨5, 0, 5, 1, 8, 3, 1, false, true⟩, ⟨5, 0, 5, 1, 8, 3, 2, false, true⟩, ⟨5, 0, 8, 1, 4, 0, 0, false, true⟩, ⟨5, 0, 8, 1, 4, 0, 1, false, true⟩, ⟨5, 0, 8, 1, 4, 0, 2, false, true⟩, ⟨5, 0, 8, 1, 4, 1, 0, false, true⟩, ⟨5, 0, 8, 1, 4, 1, 1, false, true⟩, ⟨5, 0, 8, 1, 4, 1, 2, false, true⟩, ⟨5, 0, 8, 1, 4, 2, 0, false, true⟩, ⟨5, 0, 8, 1, 4, 2, 1, false, true⟩, ⟨5, 0, 8, 1, 4, 2, 2, false, true⟩, ⟨5, 0, 8, 1, 4, 3, 0, false, true⟩, ⟨5, 0, 8, 1, 4, 3, 1, false, true⟩, ⟨5, 0, 8, 1, 4, 3, 2, false, true⟩, ⟨5, 0, 5, 1, 4, 0, 0, false, true⟩, ⟨5, 0, 5, 1, 4, 0, 1, false, true⟩, ⟨5, 0, 5, 1, 4, 0, 2, false, true⟩, ⟨5, 0, 5, 1, 4, 1, 0, false, true⟩, ⟨5, 0, 5, 1, 4, 1, 1, false, true⟩, ⟨5, 0, 5, 1, 4, 1, 2, false, true⟩, ⟨5, 0, 5, 1, 4, 2, 0, false, true⟩, ⟨5, 0, 5, 1, 4, 2, 1, false, true⟩, ⟨5, 0, 5, 1, 4, 2, 2, false, true⟩, ⟨5, 0, 5, 1, 4, 3, 0, false, true⟩, ⟨5, 0, 5, 1, 4, 3, 1, false, true⟩, ⟨5, 0, 5, 1, 4, 3, 2, false, true⟩]

theorem ga_5_0_1_0_1 : AllB g_5_0_1_0_1 := ⟨b_5_0_8_1_8_0_0_0_1, b_5_0_8_1_8_0_1_0_1, b_5_0_8_1_8_0_2_0_1, b_5_0_8_1_8_1_0_0_1, b_5_0_8_1_8_1_1_0_1, b_5_0_8_1_8_1_2_0_1, b_5_0_8_1_8_2_0_0_1, b_5_0_8_1_8_2_1_0_1, b_5_0_8_1_8_2_2_0_1, b_5_0_8_1_8_3_0_0_1, b_5_0_8_1_8_3_1_0_1, b_5_0_8_1_8_3_2_0_1, b_5_0_5_1_8_0_0_0_1, b_5_0_5_1_8_0_1_0_1, b_5_0_5_1_8_0_2_0_1, b_5_0_5_1_8_1_0_0_1, b_5_0_5_1_8_1_1_0_1, b_5_0_5_1_8_1_2_0_1, b_5_0_5_1_8_2_0_0_1, b_5_0_5_1_8_2_1_0_1, b_5_0_5_1_8_2_2_0_1, b_5_0_5_1_8_3_0_0_1, b_5_0_5_1_8_3_1_0_1, b_5_0_5_1_8_3_2_0_1, b_5_0_8_1_4_0_0_0_1, b_5_0_8_1_4_0_1_0_1, b_5_0_8_1_4_0_2_0_1, b_5_0_8_1_4_1_0_0_1, b_5_0_8_1_4_1_1_0_1, b_5_0_8_1_4_1_2_0_1, b_5_0_8_1_4_2_0_0_1, b_5_0_8_1_4_2_1_0_1, b_5_0_8_1_4_2_2_0_1, b_5_0_8_1_4_3_0_0_1, b_5_0_8_1_4_3_1_0_1, b_5_0_8_1_4_3_2_0_1, b_5_0_5_1_4_0_0_0_1, b_5_0_5_1_4_0_1_0_1, b_5_0_5_1_4_0_2_0_1, b_5_0_5_1_4_1_0_0_1, b_5_0_5_1_4_1_1_0_1, b_5_0_5_1_4_1_2_0_1, b_5_0_5_1_4_2_0_0_1, b_5_0_5_1_4_2_1_0_1, b_5_0_5_1_4_2_2_0_1, b_5_0_5_1_4_3_0_0_1, b_5_0_5_1_4_3_1_0_1, b_5_0_5_1_4_3_2_0_1, trivial⟩

theorem gm_5_0_1_0_1 : ∀ (l4 : Bool) (ss : Fin 4) (dk : Fin 3) (z : Bool), memC ⟨5, 0, lb5 z, 1, (cond l4 4 8), ss.val, dk.val, false, true⟩ g_5_0_1_0_1 = true := by decide +kernel

def g_5_0_1_1_0 : List Cfg := [⟨5, 1, 8, 0, 8, 0, 0, false, true⟩, ⟨5, 1, 8, 0, 8, 0, 1, false, true⟩, ⟨5, 1, 8, 0, 8, 0, 2, false, true⟩, ⟨5, 1, 8, 0, 8, 1, 0, false, true⟩, ⟨5, 1, 8, 0, 8, 1, 1, false, true⟩, ⟨5, 1, 8, 0, 8, 1, 2, false, true⟩, ⟨5, 1, 8, 0, 8, 2, 0, false, true⟩, ⟨5, 1, 8, 0, 8, 2, 1, false, true⟩, ⟨5, 1, 8, 0, 8, 2, 2, false, true⟩, ⟨5, 1, 8, 0, 8, 3, 0, false, true⟩, ⟨5, 1, 8, 0, 8, 3, 1, false, true⟩, ⟨5, 1, 8, 0, 8, 3, 2, false, true⟩, ⟨5, 1, 5, 0, 8, 0, 0, false, true⟩, ⟨5, 1, 5, 0, 8, 0, 1, false, true⟩, ⟨5, 1, 5, 0, 8, 0, 2, false, true⟩, ⟨5, 1, 5, 0, 8, 1, 0, false, true⟩, ⟨5, 1, 5, 0, 8, 1, 1, false, true⟩, ⟨5, 1, 5, 0, 8, 1, 2, false, true⟩, ⟨5, 1, 5, 0, 8, 2, 0, false, true⟩, ⟨5, 1, 5, 0, 8, 2, 1, false, true⟩, ⟨5, 1, 5, 0, 8, 2, 2, false, true⟩, ⟨5, 1, 5, 0, 8, 3, 0, false, true⟩, ⟨5, 1, 5, 0, 8, 3, 1, false, true⟩, ⟨5, 1, 5, 0, 8, 3, 2, false, true⟩]

theorem ga_5_0_1_1_0 : AllB g_5_0_1_1_0 := ⟨b_5_1_8_0_8_0_0_0_1, b_5_1_8_0_8_0_1_0_1, b_5_1_8_0_8_0_2_0_1, b_5_1_8_0_8_1_0_0_1, b_5_1_8_0_8_1_1_0_1, b_5_1_8_0_8_1_2_0_1, b_5_1_8_0_8_2_0_0_1, b_5_1_8_0_8_2_1_0_1, b_5_1_8_0_8_2_2_0_1, b_5_1_8_0_8_3_0_0_1, b_5_1_8_0_8_3_1_0_1, b_5_1_8_0_8_3_2_0_1, b_5_1_5_0_8_0_0_0_1, b_5_1_5_0_8_0_1_0_1, b_5_1_5_0_8_0_2_0_1, b_5_1_5_0_8_1_0_0_1, b_5_1_5_0_8_1_1_0_1, b_5_1_5_0_8_1_2_0_1, b_5_1_5_0_8_2_0_0_1, b_5_1_5_0_8_2_1_0_1, b_5_1_5_0_8_2_2_0_1, b_5_1_5_0_8_3_0_0_1, b_5_1_5_0_8_3_1_0_1, b_5_1_5_0_8_3_2_0_1, trivial⟩

theorem gm_5_0_1_1_0 : ∀ (l4 : Bool) (ss : Fin 4) (dk : Fin 3) (z : Bool), memC ⟨5, 1, lb5 z, 0, 8, ss.val, dk.val, false, true⟩ g_5_0_1_1_0 = true := by decide +kernel

def g_5_0_1_1_1 : List Cfg := [⟨5, 1, 8, 1, 8, 0, 0, false, true⟩, ⟨5, 1, 8, 1, 8, 0, 1, false, true⟩, ⟨5, 1, 8, 1, 8, 0, 2, false, true⟩, ⟨5, 1, 8, 1, 8, 1, 0, false, true⟩, ⟨5, 1, 8, 1, 8, 1, 1, false, true⟩, ⟨5, 1, 8, 1, 8, 1, 2, false, true⟩, ⟨5, 1, 8, 1, 8, 2, 0, false, true⟩, ⟨5, 1, 8, 1, 8, 2, 1, false, true⟩, ⟨5, 1, 8, 1, 8, 2, 2, false, true⟩, ⟨5, 1, 8, 1, 8, 3, 0, false, true⟩, ⟨5, 1, 8, 1, 8, 3, 1, false, true⟩, ⟨5, 1, 8, 1, 8, 3, 2, false, true⟩, ⟨5, 1, 5, 1, 8, 0, 0, false, true⟩, ⟨5, 1, 5, 1, 8, 0, 1, false, true⟩, ⟨5, 1, 5, 1, 8, 0, 2, false, true⟩, ⟨5, 1, 5, 1, 8, 1, 0, false, true⟩, ⟨5, 1, 5, 1, 8, 1, 1, false, true⟩, ⟨5, 1, 5, 1, 8, 1, 2, false, true⟩, ⟨5, 1, 5, 1, 8, 2, 0, false, true⟩, ⟨5, 1, 5, 1, 8, 2, 1, false, true⟩, ⟨5, 1, 5, 1, 8, 2, 2, false, true⟩, ⟨5, 1, 5, 1, 8, 3, 0, false, true⟩, ⟨5, 1, 5, 1, 8, 3, 1, false, true⟩, ⟨5, 1, 5, 1, 8, 3, 2, false, true⟩, ⟨5, 1, 8, 1, 4, 0, 0, false, true⟩, ⟨5, 1, 8, 1, 4, 0, 1, false, true⟩, ⟨5, 1, 8, 1, 4, 0, 2, false, true⟩, ⟨5, 1, 8, 1, 4, 1, 0, false, true⟩, ⟨5, 1, 8, 1, 4, 1, 1, false, true⟩, ⟨5, 1, 8, 1, 4, 1, 2, false, true⟩, ⟨5, 1, 8, 1, 4, 2, 0, false, true⟩, ⟨5, 1, 8, 1, 4, 2, 1, false, true⟩, ⟨5, 1, 8, 1, 4, 2, 2, false, true⟩, ⟨5, 1, 8, 1, 4, 3, 0, false, true⟩, ⟨5, 1, 8, 1, 4, 3, 1, false, true⟩, ⟨5, 1, 8, 1, 4, 3, 2, false, true⟩, ⟨5, 1, 5, 1, 4, 0, 0, false, true⟩, ⟨5, 1, 5, 1, 4, 0, 1, false, true⟩, ⟨5, 1, 5, 1, 4, 0, 2, false, true⟩, ⟨5, 1, 5, 1, 4, 1, 0, false, true⟩, ⟨5, 1, 5, 1, 4, 1, 1, false, true⟩, ⟨5, 1, 5, 1, 4, 1, 2, false, true⟩, ⟨5, 1, 5, 1, 4, 2, 0, false, true⟩, ⟨5, 1, 5, 1, 4, 2, 1, false, true⟩, ⟨5, 1, 5, 1, 4, 2, 2, false, true⟩, ⟨5, 1, 5, 1, 4, 3, 0, false, true⟩, ⟨5, 1, 5, 1, 4, 3, 1, false, true⟩, ⟨5, 1, 5, 1, 4, 3, 2, false, true⟩]

theorem ga_5_0_1_1_1 : AllB g_5_0_1_1_1 := ⟨b_5_1_8_1_8_0_0_0_1, b_5_1_8_1_8_0_1_0_1, b_5_1_8_1_8_0_2_0_1, b_5_1_8_1_8_1_0_0_1, b_5_1_8_1_8_1_1_0_1, b_5_1_8_1_8_1_2_0_1, b_5_1_8_1_8_2_0_0_1, b_5_1_8_1_8_2_1_0_1, b_5_1_8_1_8_2_2_0_1, b_5_1_8_1_8_3_0_0_1, b_5_1_8_1_8_3_1_0_1, b_5_1_8_1_8_3_2_0_1, b_5_1_5_1_8_0_0_0_1, b_5_1_5_1_8_0_1_0_1, b_5_1_5_1_8_0_2_0_1, b_5_1_5_1_8_1_0_0_1, b_5_1_5_1_8_1_1_0_1, b_5_1_5_1_8_1_2_0_1, b_5_1_5_1_8_2_0_0_1, b_5_1_5_1_8_2_1_0_1, b_5_1_5_1_8_2_2_0_1, b_5_1_5_1_8_3_0_0_1, b_5_1_5_1_8_3_1_0_1, b_5_1_5_1_8_3_2_0_1, b_5_1_8_1_4_0_0_0_1, b_5_1_8_1_4_0_1_0_1, b_5_1_8_1_4_0_2_0_1, b_5_1_8_1_4_1_0_0_1, b_5_1_8_1_4_1_1_0_1, b_5_1_8_1_4_1_2_0_1, b_5_1_8_1_4_2_0_0_1, b_5_1_8_1_4_2_1_0_1, b_5_1_8_1_4_2_2_0_1, b_5_1_8_1_4_3_0_0_1, b_5_1_8_1_4_3_1_0_1, b_5_1_8_1_4_3_2_0_1, b_5_1_5_1_4_0_0_0_1, b_5_1_5_1_4_0_1_0_1, b_5_1_5_1_4_0_2_0_1, b_5_1_5_1_4_1_0_0_1, b_5_1_5_1_4_1_1_0_1, b_5_1_5_1_4_1_2_0_1, b_5_1_5_1_4_2_0_0_1, b_5_1_5_1_4_2_1_0_1, b_5_1_5_1_4_2_2_0_1, b_5_1_5_1_4_3_0_0_1, b_5_1_5_1_4_3_1_0_1, b_5_1_5_1_4_3_2_0_1, trivial⟩

theorem gm_5_0_1_1_1 : ∀ (l4 : Bool) (ss : Fin 4) (dk : Fin 3) (z : Bool), memC ⟨5, 1, lb5 z, 1, (cond l4 4 8), ss.val, dk.val, false, true⟩ g_5_0_1_1_1 = true := by decide +kernel

def g_5_1_0_0_0 : List Cfg := [⟨5, 0, 8, 0, 8, 0, 0, true, false⟩, ⟨5, 0, 8, 0, 8, 0, 1, true, false⟩, ⟨5, 0, 8, 0, 8, 0, 2, true, false⟩, ⟨5, 0, 8, 0, 8, 1, 0, true, false⟩, ⟨5, 0, 8, 0, 8, 1, 1, true, false⟩, ⟨5, 0, 8, 0, 8, 1, 2, true, false⟩, ⟨5, 0, 8, 0, 8, 2, 0, true, false⟩, ⟨5, 0, 8, 0, 8, 2, 1, true, false⟩, ⟨5, 0, 8, 0, 8, 2, 2, true, false⟩, ⟨5, 0, 8, 0, 8, 3, 0, true, false⟩, ⟨5, 0, 8, 0, 8, 3, 1, true, false⟩, ⟨5, 0, 8, 0, 8, 3, 2, true, false⟩, ⟨5, 0, 5, 0, 8, 0, 0, true, false⟩, ⟨5, 0, 5, 0, 8, 0, 1, true, false⟩, ⟨5, 0, 5, 0, 8, 0, 2, true, false⟩, ⟨5, 0, 5, 0, 8, 1, 0, true, false⟩, ⟨5, 0, 5, 0, 8, 1, 1, true, false⟩, ⟨5, 0, 5, 0, 8, 1, 2, true, false⟩, ⟨5, 0, 5, 0, 8, 2, 0, true, false⟩, ⟨5, 0, 5, 0, 8, 2, 1, true, false⟩, ⟨5, 0, 5, 0, 8, 2, 2, true, false⟩, ⟨5, 0, 5, 0, 8, 3, 0, true, false⟩, ⟨5, 0, 5, 0, 8, 3, 1, true, false⟩, ⟨5, 0, 5, 0, 8, 3, 2, true, false⟩]

theorem ga_5_1_0_0_0 : AllB g_5_1_0_0_0 := ⟨b_5_0_8_0_8_0_0_1_0, b_5_0_8_0_8_0_1_1_0, b_5_0_8_0_8_0_2_1_0, b_5_0_8_0_8_1_0_1_0, b_5_0_8_0_8_1_1_1_0, b_5_0_8_0_8_1_2_1_0, b_5_0_8_0_8_2_0_1_0, b_5_0_8_0_8_2_1_1_0, b_5_0_8_0_8_2_2_1_0, b_5_0_8_0_8_3_0_1_0, b_5_0_8_0_8_3_1_1_0, b_5_0_8_0_8_3_2_1_0, b_5_0_5_0_8_0_0_1_0, b_5_0_5_0_8_0_1_1_0, b_5_0_5_0_8_0_2_1_0, b_5_0_5_0_8_1_0_1_0, b_5_0_5_0_8_1_1_1_0, b_5_0_5_0_8_1_2_1_0, b_5_0_5_0_8_2_0_1_0, b_5_0_5_0_8_2_1_1_0, b_5_0_5_0_8_2_2_1_0, b_5_0_5_0_8_3_0_1_0, b_5_0_5_0_8_3_1_1_0, b_5_0_5_0_8_3_2_1_0, trivial⟩

theorem gm_5_1_0_0_0 : ∀ (l4 : Bool) (ss : Fin 4) (dk : Fin 3) (z : Bool), memC ⟨5, 0, lb5 z, 0, 8, ss.val, dk.val, true, false⟩ g_5_1_0_0_0 = true := by decide +kernel

def g_5_1_0_0_1 : List Cfg := [⟨5, 0, 8, 1, 8, 0, 0, true, false⟩, ⟨5, 0, 8, 1, 8, 0, 1, true, false⟩, ⟨5, 0, 8, 1, 8, 0, 2, true, false⟩, ⟨5, 0, 8, 1, 8, 1, 0, true, false⟩, ⟨5, 0, 8, 1, 8, 1, 1, true, false⟩, ⟨5, 0, 8, 1, 8, 1, 2, true, false⟩, ⟨5, 0, 8, 1, 8, 2, 0, true, false⟩, ⟨5, 0, 8, 1, 8, 2, 1, true, false⟩, ⟨5, 0, 8, 1, 8, 2, 2, true, false⟩, ⟨5, 0, 8, 1, 8, 3, 0, true, false⟩, ⟨5, 0, 8, 1, 8, 3, 1, true, false⟩, ⟨5, 0, 8, 1, 8, 3, 2, true, false⟩, ⟨5, 0, 5, 1, 8, 0, 0, true, false⟩, ⟨5, 0, 5, 1, 8, 0, 1, true, false⟩, ⟨5, 0, 5, 1, 8, 0, 2, true, false⟩, ⟨5, 0, 5, 1, 8, 1, 0, true, false⟩, ⟨5, 0, 5, 1, 8, 1, 1, true, false⟩, ⟨5, 0, 5, 1, 8, 1, 2, true, false⟩, ⟨5, 0, 5, 1, 8, 2, 0, true, false⟩, ⟨5, 0, 5, 1, 8, 2, 1, true, false⟩, ⟨5, 0, 5, 1, 8, 2, 2, true, false⟩, ⟨5, 0, 5, 1, 8, 3, 0, true, false⟩, ⟨5, 0, 5, 1, 8, 3, 1, true, false⟩, ⟨5, 0, 5, 1, 8, 3, 2, true, false⟩, ⟨5, 0, 8, 1, 4, 0, 0, true, false⟩, ⟨5, 0, 8, 1, 4, 0, 1, true, false⟩, ⟨5, 0, 8, 1, 4, 0, 2, true, false⟩, ⟨5, 0, 8, 1, 4, 1, 0, true, false⟩, ⟨5, 0, 8, 1, 4, 1, 1, true, false⟩, ⟨5, 0, 8, 1, 4, 1, 2, true, false⟩, ⟨5, 0, 8, 1, 4, 2, 0, true, false⟩, ⟨5, 0, 8, 1, 4, 2, 1, true, false⟩, ⟨5, 0, 8, 1, 4, 2, 2, true, false⟩, ⟨5, 0, 8, 1, 4, 3, 0, true, false⟩, ⟨5, 0, 8, 1, 4, 3, 1, true, false⟩, ⟨5, 0, 8, 1, 4, 3, 2, true, false⟩, ⟨5, 0, 5, 1, 4, 0, 0, true, false⟩, ⟨5, 0, 5, 1, 4, 0, 1, true, false⟩, ⟨5, 0, 5, 1, 4, 0, 2, true, false⟩, ⟨5, 0, 5, 1, 4, 1, 0, true, false⟩, ⟨5, 0, 5, 1, 4, 1, 1, true, false⟩, ⟨5, 0, 5, 1, 4, 1, 2, true, false⟩, ⟨5, 0, 5, 1, 4, 2, 0, true, false⟩, ⟨5, 0, 5, 1, 4, 2, 1, true, false⟩, ⟨5, 0, 5, 1, 4, 2, 2, true, false⟩, ⟨5, 0, 5, 1, 4, 3, 0, true, false⟩, ⟨5, 0, 5, 1, 4, 3, 1, true, false⟩, ⟨5, 0, 5, 1, 4, 3, 2, true, false⟩]

theorem ga_5_1_0_0_1 : AllB g_5_1_0_0_1 := ⟨b_5_0_8_1_8_0_0_1_0, b_5_0_8_1_8_0_1_1_0, b_5_0_8_1_8_0_2_1_0, b_5_0_8_1_8_1_0_1_0, b_5_0_8_1_8_1_1_1_0, b_5_0_8_1_8_1_2_1_0, b_5_0_8_1_8_2_0_1_0, b_5_0_8_1_8_2_1_1_0, b_5_0_8_1_8_2_2_1_0, b_5_0_8_1_8_3_0_1_0, b_5_0_8_1_8_3_1_1_0, b_5_0_8_1_8_3_2_1_0, b_5_0_5_1_8_0_0_1_0, b_5_0_5_1_8_0_1_1_0, b_5_0_5_1_8_0_2_1_0, b_5_0_5_1_8_1_0_1_0, b_5_0_5_1_8_1_1_1_0, b_5_0_5_1_8_1_2_1_0, b_5_0_5_1_8_2_0_1_0, b_5_0_5_1_8_2_1_1_0, b_5_0_5_1_8_2_2_1_0, b_5_0_5_1_8_3_0_1_0, b_5_0_5_1_8_3_1_1_0, b_5_0_5_1_8_3_2_1_0, b_5_0_8_1_4_0_0_1_0, b_5_0_8_1_4_0_1_1_0, b_5_0_8_1_4_0_2_1_0, b_5_0_8_1_4_1_0_1_0, b_5_0_8_1_4_1_1_1_0, b_5_0_8_1_4_1_2_1_0, b_5_0_8_1_4_2_0_1_0, b_5_0_8_1_4_2_1_1_0, b_5_0_8_1_4_2_2_1_0, b_5_0_8_1_4_3_0_1_0, b_5_0_8_1_4_3_1_1_0, b_5_0_8_1_4_3_2_1_0, b_5_0_5_1_4_0_0_1_0, b_5_0_5_1_4_0_1_1_0, b_5_0_5_1_4_0_2_1_0, b_5_0_5_1_4_1_0_1_0, b_5_0_5_1_4_1_1_1_0, b_5_0_5_1_4_1_2_1_0, b_5_0_5_1_4_2_0_1_0, b_5_0_5_1_4_2_1_1_0, b_5_0_5_1_4_2_2_1_0, b_5_0_5_1_4_3_0_1_0, b_5_0_5_1_4_3_1_1_0, b_5_0_5_1_4_3_2_1_0, trivial⟩

theorem gm_5_1_0_0_1 : ∀ (l4 : Bool) (ss : Fin 4) (dk : Fin 3) (z : Bool), memC ⟨5, 0, lb5 z, 1, (cond l4 4 8), ss.val, dk.val, true, false⟩ g_5_1_0_0_1 = true := by decide +kernel

def g_5_1_0_1_0 : List Cfg := [⟨5, 1, 8, 0, 8, 0, 0, true, false⟩, ⟨5, 1, 8, 0, 8, 0, 1, true, false⟩, ⟨5, 1, 8, 0, 8, 0, 2, true, false⟩, ⟨5, 1, 8, 0, 8, 1, 0, true, false⟩, ⟨5, 1, 8, 0, 8, 1, 1, true, false⟩, ⟨5, 1, 8, 0, 8, 1, 2, true, false⟩, ⟨5, 1, 8, 0, 8, 2, 0, true, false⟩, ⟨5, 1, 8, 0, 8, 2, 1, true, false⟩, ⟨5, 1, 8, 0, 8, 2, 2, true, false⟩, ⟨5, 1, 8, 0, 8, 3, 0, true, false⟩, ⟨5, 1, 8, 0, 8, 3, 1, true, false⟩, ⟨5, 1, 8, 0, 8, 3, 2, true, false⟩, ⟨5, 1, 5, 0, 8, 0, 0, true, false⟩, ⟨5, 1, 5, 0, 8, 0, 1, true, false⟩, ⟨5, 1, 5, 0, 8, 0, 2, true, false⟩, ⟨5, 1, 5, 0, 8, 1, 0, true, false⟩, ⟨5, 1, 5, 0, 8, 1, 1, true, false⟩, ⟨5, 1, 5, 0, 8, 1, 2, true, false⟩, ⟨5, 1, 5, 0, 8, 2, 0, true, false⟩, ⟨5, 1, 5, 0, 8, 2, 1, true, false⟩, ⟨5, 1, 5, 0, 8, 2, 2, true, false⟩, ⟨5, 1, 5, 0, 8, 3, 0, true, false⟩, ⟨5, 1, 5, 0, 8, 3, 1, true, false⟩, ⟨5, 1, 5, 0, 8, 3, 2, true, false⟩]

theorem ga_5_1_0_1_0 : AllB g_5_1_0_1_0 := ⟨b_5_1_8_0_8_0_0_1_0, b_5_1_8_0_8_0_1_1_0, b_5_1_8_0_8_0_2_1_0, b_5_1_8_0_8_1_0_1_0, b_5_1_8_0_8_1_1_1_0, b_5_1_8_0_8_1_2_1_0, b_5_1_8_0_8_2_0_1_0, b_5_1_8_0_8_2_1_1_0, b_5_1_8_0_8_2_2_1_0, b_5_1_8_0_8_3_0_1_0, b_5_1_8_0_8_3_1_1_0, b_5_1_8_0_8_3_2_1_0, b_5_1_5_0_8_0_0_1_0, b_5_1_5_0_8_0_1_1_0, b_5_1_5_0_8_0_2_1_0, b_5_1_5_0_8_1_0_1_0, b_5_1_5_0_8_1_1_1_0, b_5_1_5_0_8_1_2_1_0, b_5_1_5_0_8_2_0_1_0, b_5_1_5_0_8_2_1_1_0, b_5_1_5_0_8_2_2_1_0, b_5_1_5_0_8_3_0_1_0, b_5_1_5_0_8_3_1_1_0, b_5_1_5_0_8_3_2_1_0, trivial⟩

theorem gm_5_1_0_1_0 : ∀ (l4 : Bool) (ss : Fin 4) (dk : Fin 3) (z : Bool), memC ⟨5, 1, lb5 z, 0, 8, ss.val, dk.val, true, false⟩ g_5_1_0_1_0 = true := by decide +kernel

def g_5_1_0_1_1 : List Cfg := [⟨5, 1, 8, 1, 8, 0, 0, true, false⟩, ⟨5, 1, 8, 1, 8, 0, 1, true, false⟩, ⟨5, 1, 8, 1, 8, 0, 2, true, false⟩, ⟨5, 1, 8, 1, 8, 1, 0, true, false⟩, ⟨5, 1, 8, 1, 8, 1, 1, true, false⟩, ⟨5, 1, 8, 1, 8, 1, 2, true, false⟩, ⟨5, 1, 8, 1, 8, 2, 0, true, false⟩, ⟨5, 1, 8, 1, 8, 2, 1, true, false⟩, ⟨5, 1, 8, 1, 8, 2, 2, true, false⟩, ⟨5, 1, 8, 1, 8, 3, 0, true, false⟩, ⟨5, 1, 8, 1, 8, 3, 1, true, false⟩, ⟨5, 1, 8, 1, 8, 3, 2, true, false⟩, ⟨5, 1, 5, 1, 8, 0, 0, true, false⟩, ⟨5, 1, 5, 1, 8, 0, 1, true, false⟩, ⟨5, 1, 5, 1, 8, 0, 2, true, false⟩, ⟨5, 1, 5, 1, 8, 1, 0, true, false⟩, ⟨5, 1, 5, 1, 8, 1, 1, true, false⟩, ⟨5, 1, 5, 1, 8, 1, 2, true, false⟩, ⟨5, 1, 5, 1, 8, 2, 0, true, false⟩, ⟨5, 1, 5, 1, 8, 2, 1, true, false⟩, ⟨5, 1, 5, 1, 8, 2, 2, true, false⟩, ⟨5, 1, 5, 1, 8, 3, 0, true, false⟩, ⟨5, 1, 5, 1, 8, 3, 1, true, false⟩, ⟨5, 1, 5, 1, 8, 3, 2, true, false⟩, ⟨5, 1, 8, 1, 4, 0, 0, true, false⟩, ⟨5, 1, 8, 1, 4, 0, 1, true, false⟩, ⟨5, 1, 8, 1, 4, 0, 2, true, false⟩, ⟨5, 1, 8, 1, 4, 1, 0, true, false⟩, ⟨5, 1, 8, 1, 4, 1, 1, true, false⟩, ⟨5, 1, 8, 1, 4, 1, 2, true, false⟩, ⟨5, 1, 8, 1, 4, 2, 0, true, false⟩, ⟨5, 1, 8, 1, 4, 2, 1, true, false⟩, ⟨5, 1, 8, 1, 4, 2, 2, true, false⟩, ⟨5, 1, 8, 1, 4, 3, 0, true, false⟩, ⟨5, 1, 8, 1, 4, 3, 1, true, false⟩, ⟨5, 1, 8, 1, 4, 3, 2, true, false⟩, ⟨5, 1, 5, 1, 4, 0, 0, true, false⟩, ⟨5, 1, 5, 1, 4, 0, 1, true, false⟩, ⟨5, 1, 5, 1, 4, 0, 2, true, false⟩, ⟨5, 1, 5, 1, 4, 1, 0, true, false⟩, ⟨5, 1, 5, 1, 4, 1, 1, true, false⟩, ⟨5, 1, 5, 1, 4, 1, 2, true, false⟩, ⟨5, 1, 5, 1, 4, 2, 0, true, false⟩, ⟨5, 1, 5, 1, 4, 2, 1, true, false⟩, ⟨5, 1, 5, 1, 4, 2, 2, true, false⟩, ⟨5, 1, 5, 1, 4, 3, 0, true, false⟩, ⟨5, 1, 5, 1, 4, 3, 1, true, false⟩, ⟨5, 1, 5, 1, 4, 3, 2, true, false⟩]

theorem ga_5_1_0_1_1 : AllB g_5_1_0_1_1 := ⟨b_5_1_8_1_8_0_0_1_0, b_5_1_8_1_8_0_1_1_0, b_5_1_8_1_8_0_2_1_0, b_5_1_8_1_8_1_0_1_0, b_5_1_8_1_8_1_1_1_0, b_5_1_8_1_8_1_2_1_0, b_5_1_8_1_8_2_0_1_0, b_5_1_8_1_8_2_1_1_0, b_5_1_8_1_8_2_2_1_0, b_5_1_8_1_8_3_0_1_0, b_5_1_8_1_8_3_1_1_0, b_5_1_8_1_8_3_2_1_0, b_5_1_5_1_8_0_0_1_0, b_5_1_5_1_8_0_1_1_0, b_5_1_5_1_8_0_2_1_0, b_5_1_5_1_8_1_0_1_0, b_5_1_5_1_8_1_1_1_0, b_5_1_5_1_8_1_2_1_0, b_5_1_5_1_8_2_0_1_0, b_5_1_5_1_8_2_1_1_0, b_5_1_5_1_8_2_2_1_0, b_5_1_5_1_8_3_0_1_0, b_5_1_5_1_8_3_1_1_0, b_5_1_5_1_8_3_2_1_0, b_5_1_8_1_4_0_0_1_0, b_5_1_8_1_4_0_1_1_0, b_5_1_8_1_4_0_2_1_0, b_5_1_8_1_4_1_0_1_0, b_5_1_8_1_4_1_1_1_0, b_5_1_8_1_4_1_2_1_0, b_5_1_8_1_4_2_0_1_0, b_5_1_8_1_4_2_1_1_0, b_5_1_8_1_4_2_2_1_0, b_5_1_8_1_4_3_0_1_0, b_5_1_8_1_4_3_1_1_0, b_5_1_8_1_4_3_2_1_0, b_5_1_5_1_4_0_0_1_0, b_5_1_5_1_4_0_1_1_0, b_5_1_5_1_4_0_2_1_0, b_5_1_5_1_4_1_0_1_0, b_5_1_5_1_4_1_1_1_0, b_5_1_5_1_4_1_2_1_0, b_5_1_5_1_4_2_0_1_0, b_5_1_5_1_4_2_1_1_0, b_5_1_5_1_4_2_2_1_0, b_5_1_5_1_4_3_0_1_0, b_5_1_5_1_4_3_1_1_0, b_5_1_5_1_4_3_2_1_0, trivial⟩

theorem gm_5_1_0_1_1 : ∀ (l4 : Bool) (ss : Fin 4) (dk : Fin 3) (z : Bool), memC ⟨5, 1, lb5 z, 1, (cond l4 4 8), ss.val, dk.val, true, false⟩ g_5_1_0_1_1 = true := by decide +kernel

def g_5_1_1_0_0 : List Cfg := [⟨5, 0, 8, 0, 8, 0, 0, true, true⟩, ⟨5, 0, 8, 0, 8, 0, 1, true, true⟩, ⟨5, 0, 8, 0, 8, 0, 2, true, true⟩, ⟨5, 0, 8, 0, 8, 1, 0, true, true⟩, ⟨5, 0, 8, 0, 8, 1, 1, true, true⟩, ⟨5, 0, 8, 0, 8, 1, 2, true, true⟩, ⟨5, 0, 8, 0, 8, 2, 0, true, true⟩, ⟨5, 0, 8, 0, 8, 2, 1, true, true⟩, ⟨5, 0, 8, 0, 8, 2, 2, true, true⟩, ⟨5, 0, 8, 0, 8, 3, 0, true, true⟩, ⟨5, 0, 8, 0, 8, 3, 1, true, true⟩, ⟨5, 0, 8, 0, 8, 3, 2, true, true⟩, ⟨5, 0, 5, 0, 8, 0, 0, true, true⟩, ⟨5, 0, 5, 0, 8, 0, 1, true, true⟩, ⟨5, 0, 5, 0, 8, 0, 2, true, true⟩, ⟨5, 0, 5, 0, 8, 1, 0, true, true⟩, ⟨5, 0, 5, 0, 8, 1, 1, true, true⟩, ⟨5, 0, 5, 0, 8, 1, 2, true, true⟩, ⟨5, 0, 5, 0, 8, 2, 0, true, true⟩, ⟨5, 0, 5, 0, 8, 2, 1, true, true⟩, ⟨5, 0, 5, 0, 8, 2, 2, true, true⟩, ⟨5, 0, 5, 0, 8, 3, 0, true, true⟩, ⟨5, 0, 5, 0, 8, 3, 1, true, true⟩, ⟨5, 0, 5, 0, 8, 3, 2, true, true⟩]

theorem ga_5_1_1_0_0 : AllB g_5_1_1_0_0 := ⟨b_5_0_8_0_8_0_0_1_1, b_5_0_8_0_8_0_1_1_1, b_5_0_8_0_8_0_2_1_1, b_5_0_8_0_8_1_0_1_1, b_5_0_8_0_8_1_1_1_1, b_5_0_8_0_8_1_2_1_1, b_5_0_8_0_8_2_0_1_1, b_5_0_8_0_8_2_1_1_1, b_5_0_8_0_8_2_2_1_1, b_5_0_8_0_8_3_0_1_1, b_5_0_8_0_8_3_1_1_1, b_5_0_8_0_8_3_2_1_1, b_5_0_5_0_8_0_0_1_1, b_5_0_5_0_8_0_1_1_1, b_5_0_5_0_8_0_2_1_1, b_5_0_5_0_8_1_0_1_1, b_5_0_5_0_8_1_1_1_1, b_5_0_5_0_8_1_2_1_1, b_5_0_5_0_8_2_0_1_1, b_5_0_5_0_8_2_1_1_1, b_5_0_5_0_8_2_2_1_1, b_5_0_5_0_8_3_0_1_1, b_5_0_5_0_8_3_1_1_1, b_5_0_5_0_8_3_2_1_1, trivial⟩

theorem gm_5_1_1_0_0 : ∀ (l4 : Bool) (ss : Fin 4) (dk : Fin 3) (z : Bool), memC ⟨5, 0, lb5 z, 0, 8, ss.val, dk.val, true, true⟩ g_5_1_1_0_0 = true := by decide +kernel

def g_5_1_1_0_1 : List Cfg := [⟨5, 0, 8, 1, 8, 0, 0, true, true⟩, ⟨5, 0, 8, 1, 8, 0, 1, true, true⟩, ⟨5, 0, 8, 1, 8, 0, 2, true, true⟩, ⟨5, 0, 8, 1, 8, 1, 0, true, true⟩, ⟨5, 0, 8, 1, 8, 1, 1, true, true⟩, ⟨5, 0, 8, 1, 8, 1, 2, true, true⟩, ⟨5, 0, 8, 1, 8, 2, 0, true, true⟩, ⟨5, 0, 8, 1, 8, 2, 1, true, true⟩, ⟨5, 0, 8, 1, 8, 2, 2, true, true⟩, ⟨5, 0, 8, 1, 8, 3, 0, true, true⟩, ⟨5, 0, 8, 1, 8, 3, 1, true, true⟩, ⟨5, 0, 8, 1, 8, 3, 2, true, true⟩, ⟨5, 0, 5, 1, 8, 0, 0, true, true⟩, ⟨5, 0, 5, 1, 8, 0, 1, true, true⟩, ⟨5, 0, 5, 1, 8, 0, 2, true, true⟩, ⟨5, 0, 5, 1, 8, 1, 0, true, true⟩, ⟨5, 0, 5, 1, 8, 1, 1, true, true⟩, ⟨5, 0, 5, 1, 8, 1, 2, true, true⟩, ⟨5, 0, 5, 1, 8, 2, 0, true, true⟩, ⟨5, 0, 5, 1, 8, 2, 1, true, true⟩, ⟨5, 0, 5, 1, 8, 2, 2, true, true⟩, ⟨5, 0, 5, 1, 8, 3, 0, true, true⟩, ⟨5, 0, 5, 1, 8, 3, 1, true, true⟩, ⟨5, 0, 5, 1, 8, 3, 2, true, true⟩, ⟨5, 0, 8, 1, 4, 0, 0, true, true⟩, ⟨5, 0, 8, 1, 4, 0, 1, true, true⟩, ⟨5, 0, 8, 1, 4, 0, 2, true, true⟩, ⟨5, 0, 8, 1, 4, 1, 0, true, true⟩, ⟨5, 0, 8, 1, 4, 1, 1, true, true⟩, ⟨5, 0, 8, 1, 4, 1, 2, true, true⟩, ⟨5, 0, 8, 1, 4, 2, 0, true, true⟩, ⟨5, 0, 8, 1, 4, 2, 1, true, true⟩, ⟨5, 0, 8, 1, 4, 2, 2, true, true⟩, ⟨5, 0, 8, 1, 4, 3, 0, true, true⟩, ⟨5, 0, 8, 1, 4, 3, 1, true, true⟩, ⟨5, 0, 8, 1, 4, 3, 2, true, true⟩, ⟨5, 0, 5, 1, 4, 0, 0, true, true⟩, ⟨5, 0, 5, 1, 4, 0, 1, true, true⟩, ⟨5, 0, 5, 1, 4, 0, 2, true, true⟩, ⟨5, 0, 5, 1, 4, 1, 0, true, true⟩, ⟨5, 0, 5, 1, 4, 1, 1, true, true⟩, ⟨5, 0, 5, 1, 4, 1, 2, true, true⟩, ⟨5, 0, 5, 1, 4, 2, 0, true, true⟩, ⟨5, 0, 5, 1, 4, 2, 1, true, true⟩, ⟨5, 0, 5, 1, 4, 2, 2, true, true⟩, ⟨5, 0, 5, 1, 4, 3, 0, true, true⟩, ⟨5, 0, 5, 1, 4, 3, 1, true, true⟩, ⟨5, 0, 5, 1, 4, 3, 2, true, true⟩]

theorem ga_5_1_1_0_1 : AllB g_5_1_1_0_1 := ⟨b_5_0_8_1_8_0_0_1_1, b_5_0_8_1_8_0_1_1_1, b_5_0_8_1_8_0_2_1_1, b_5_0_8_1_8_1_0_1_1, b_5_0_8_1_8_1_1_1_1, b_5_0_8_1_8_1_2_1_1, b_5_0_8_1_8_2_0_1_1, b_5_0_8_1_8_2_1_1_1, b_5_0_8_1_8_2_2_1_1, b_5_0_8_1_8_3_0_1_1, b_5_0_8_1_8_3_1_1_1, b_5_0_8_1_8_3_2_1_1, b_5_0_5_1_8_0_0_1_1, b_5_0_5_1_8_0_1_1_1, b_5_0_5_1_8_0_2_1_1, b_5_0_5_1_8_1_0_1_1, b_5_0_5_1_8_1_1_1_1, b_5_0_5_1_8_1_2_1_1, b_5_0_5_1_8_2_0_1_1, b_5_0_5_1_8_2_1_1_1, b_5_0_5_1_8_2_2_1_1, b_5_0_5_1_8_3_0_1_1, b_5_0_5_1_8_3_1_1_1, b_5_0_5_1_8_3_2_1_1, b_5_0_8_1_4_0_0_1_1, b_5_0_8_1_4_0_1_1_1, b_5_0_8_1_4_0_2_1_1, b_5_0_8_1_4_1_0_1_1, b_5_0_8_1_4_1_1_1_1, b_5_0_8_1_4_1_2_1_1, b_5_0_8_1_4_2_0_1_1, b_5_0_8_1_4_2_1_1_1, b_5_0_8_1_4_2_2_1_1, b_5_0_8_1_4_3_0_1_1, b_5_0_8_1_4_3_1_1_1, b_5_0_8_1_4_3_2_1_1, b_5_0_5_1_4_0_0_1_1, b_5_0_5_1_4_0_1_1_1, b_5_0_5_1_4_0_2_1_1, b_5_0_5_1_4_1_0_1_1, b_5_0_5_1_4_1_1_1_1, b_5_0_5_1_4_1_2_1_1, b_5_0_5_1_4_2_0_1_1, b_5_0_5_1_4_2_1_1_1, b_5_0_5_1_4_2_2_1_1, b_5_0_5_1_4_3_0_1_1, b_5_0_5_1_4_3_1_1_1, b_5_0_5_1_4_3_2_1_1, trivial⟩

theorem gm_5_1_1_0_1 : ∀ (l4 : Bool) (ss : Fin 4) (dk : Fin 3) (z : Bool), memC ⟨5, 0, lb5 z, 1, (cond l4 4 8), ss.val, dk.val, true, true⟩ g_5_1_1_0_1 = true := by decide +kernel

def g_5_1_1_1_0 : List Cfg := [⟨5, 1, 8, 0, 8, 0, 0, true, true⟩, ⟨5, 1, 8, 0, 8, 0, 1, true, true⟩, ⟨5, 1, 8, 0, 8, 0, 2, true, true⟩, ⟨5, 1, 8, 0, 8, 1, 0, true, true⟩, ⟨5, 1, 8, 0, 8, 1, 1, true, true⟩, ⟨5, 1, 8, 0, 8, 1, 2, true, true⟩, ⟨5, 1, 8, 0, 8, 2, 0, true, true⟩, ⟨5, 1, 8, 0, 8, 2, 1, true, true⟩, ⟨5, 1, 8, 0, 8, 2, 2, true, true⟩, ⟨5, 1, 8, 0, 8, 3, 0, true, true⟩, ⟨5, 1, 8, 0, 8, 3, 1, true, true⟩, ⟨5, 1, 8, 0, 8, 3, 2, true, true⟩, ⟨5, 1, 5, 0, 8, 0, 0, true, true⟩, ⟨5, 1, 5, 0, 8, 0, 1, true, true⟩, ⟨5, 1, 5, 0, 8, 0, 2, true, true⟩, ⟨5, 1, 5, 0, 8, 1, 0, true, true⟩, ⟨5, 1, 5, 0, 8, 1, 1, true, true⟩, ⟨5, 1, 5, 0, 8, 1, 2, true, true⟩, ⟨5, 1, 5, 0, 8, 2, 0, true, true⟩, ⟨5, 1, 5, 0, 8, 2, 1, true, true⟩, ⟨5, 1, 5, 0, 8, 2, 2, true, true⟩, ⟨5, 1, 5, 0, 8, 3, 0, true, true⟩, ⟨5, 1, 5, 0, 8, 3, 1, true, true⟩, ⟨5, 1, 5, 0, 8, 3, 2, true, true⟩]

theorem ga_5_1_1_1_0 : AllB g_5_1_1_1_0 := ⟨b_5_1_8_0_8_0_0_1_1, b_5_1_8_0_8_0_1_1_1, b_5_1_8_0_8_0_2_1_1, b_5_1_8_0_8_1_0_1_1, b_5_1_8_0_8_1_1_1_1, b_5_1_8_0_8_1_2_1_1, b_5_1_8_0_8_2_0_1_1, b_5_1_8_0_8_2_1_1_1, b_5_1_8_0_8_2_2_1_1, b_5_1_8_0_8_3_0_1_1, b_5_1_8_0_8_3_1_1_1, b_5_1_8_0_8_3_2_1_1, b_5_1_5_0_8_0_0_1_1, b_5_1_5_0_8_0_1_1_1, b_5_1_5_0_8_0_2_1_1, b_5_1_5_0_8_1_0_1_1, b_5_1_5_0_8_1_1_1_1, b_5_1_5_0_8_1_2_1_1, b_5_1_5_0_8_2_0_1_1, b_5_1_5_0_8_2_1_1_1, b_5_1_5_0_8_2_2_1_1, b_5_1_5_0_8_3_0_1_1, b_5_1_5_0_8_3_1_1_1, b_5_1_5_0_8_3_2_1_1, trivial⟩

theorem gm_5_1_1_1_0 : ∀ (l4 : Bool) (ss : Fin 4) (dk : Fin 3) (z : Bool), memC ⟨5, 1, lb5 z, 0, 8, ss.val, dk.val, true, true⟩ g_5_1_1_1_0 = true := by decide +kernel

def g_5_1_1_1_1 : List Cfg := [⟨5, 1, 8, 1, 8, 0, 0, true, true⟩, ⟨5, 1, 8, 1, 8, 0, 1, true, true⟩, ⟨5, 1, 8, 1, 8, 0, 2, true, true⟩, ⟨5, 1, 8, 1, 8, 1, 0, true, true⟩, ⟨5, 1, 8, 1, 8, 1, 1, true, true⟩, ⟨5, 1, 8, 1, 8, 1, 2, true, true⟩, ⟨5, 1, 8, 1, 8, 2, 0, true, true⟩, ⟨5, 1, 8, 1, 8, 2, 1, true, true⟩, ⟨5, 1, 8, 1, 8, 2, 2, true, true⟩, ⟨5, 1, 8, 1, 8, 3, 0, true, true⟩, ⟨5, 1, 8, 1, 8, 3, 1, true, true⟩, ⟨5, 1, 8, 1, 8, 3, 2, true, true⟩, ⟨5, 1, 5, 1, 8, 0, 0, true, true⟩, ⟨5, 1, 5, 1, 8, 0, 1, true, true⟩, ⟨5, 1, 5, 1, 8, 0, 2, true, true⟩, ⟨5, 1, 5, 1, 8, 1, 0, true, true⟩, ⟨5, 1, 5, 1, 8, 1, 1, true, true⟩, ⟨5, 1, 5, 1, 8, 1, 2, true, true⟩, ⟨5, 1, 5, 1, 8, 2, 0, true, true⟩, ⟨5, 1, 5, 1, 8, 2, 1, true, true⟩, ⟨5, 1, 5, 1, 8, 2, 2, true, true⟩, ⟨5, 1, 5, 1, 8, 3, 0, true, true⟩, ⟨5, 1, 5, 1, 8, 3, 1, true, true⟩, ⟨5, 1, 5, 1, 8, 3, 2, true, true⟩, ⟨5, 1, 8, 1, 4, 0, 0, true, true⟩, ⟨5, 1, 8, 1, 4, 0, 1, true, true⟩, ⟨5, 1, 8, 1, 4, 0, 2, true, true⟩, ⟨5, 1, 8, 1, 4, 1, 0, true, true⟩, ⟨5, 1, 8, 1, 4, 1, 1, true, true⟩, ⟨5, 1, 8, 1, 4, 1, 2, true, true⟩, ⟨5, 1, 8, 1, 4, 2, 0, true, true⟩, ⟨5, 1, 8, 1, 4, 2, 1, true, true⟩, ⟨5, 1, 8, 1, 4, 2, 2, true, true⟩, ⟨5, 1, 8, 1, 4, 3, 0, true, true⟩, ⟨5, 1, 8, 1, 4, 3, 1, true, true⟩, ⟨5, 1, 8, 1, 4, 3, 2, true, true⟩, ⟨5, 1, 5, 1, 4, 0, 0, true, true⟩, ⟨5, 1, 5, 1, 4, 0, 1, true, true⟩, ⟨5, 1, 5, 1, 4, 0, 2, true, true⟩, ⟨5, 1, 5, 1, 4, 1, 0, true, true⟩, ⟨5, 1, 5, 1, 4, 1, 1, true, true⟩, ⟨5, 1, 5, 1, 4, 1, 2, true, true⟩, ⟨5, 1, 5, 1, 4, 2, 0, true, true⟩, ⟨5, 1, 5, 1, 4, 2, 1, true, true⟩, ⟨5, 1, 5, 1, 4, 2, 2, true, true⟩, ⟨5, 1, 5, 1, 4, 3, 0, true, true⟩, ⟨5, 1, 5, 1, 4, 3, 1, true, true⟩, ⟨5, 1, 5, 1, 4, 3, 2, true, true⟩]

theorem ga_5_1_1_1_1 : AllB g_5_1_1_1_1 := ⟨b_5_1_8_1_8_0_0_1_1, b_5_1_8_1_8_0_1_1_1, b_5_1_8_1_8_0_2_1_1, b_5_1_8_1_8_1_0_1_1, b_5_1_8_1_8_1_1_1_1, b_5_1_8_1_8_1_2_1_1, b_5_1_8_1_8_2_0_1_1, b_5_1_8_1_8_2_1_1_1, b_5_1_8_1_8_2_2_1_1, b_5_1_8_1_8_3_0_1_1, b_5_1_8_1_8_3_1_1_1, b_5_1_8_1_8_3_2_1_1, b_5_1_5_1_8_0_0_1_1, b_5_1_5_1_8_0_1_1_1, b_5_1_5_1_8_0_2_1_1, b_5_1_5_1_8_1_0_1_1, b_5_1_5_1_8_1_1_1_1, b_5_1_5_1_8_1_2_1_1, b_5_1_5_1_8_2_0_1_1, b_5_1_5_1_8_2_1_1_1, b_5_1_5_1_8_2_2_1_1, b_5_1_5_1_8_3_0_1_1, b_5_1_5_1_8_3_1_1_1, b_5_1_5_1_8_3_2_1_1, b_5_1_8_1_4_0_0_1_1, b_5_1_8_1_4_0_1_1_1, b_5_1_8_1_4_0_2_1_1, b_5_1_8_1_4_1_0_1_1, b_5_1_8_1_4_1_1_1_1, b_5_1_8_1_4_1_2_1_1, b_5_1_8_1_4_2_0_1_1, b_5_1_8_1_4_2_1_1_1, b_5_1_8_1_4_2_2_1_1, b_5_1_8_1_4_3_0_1_1, b_5_1_8_1_4_3_1_1_1, b_5_1_8_1_4_3_2_1_1, b_5_1_5_1_4_0_0_1_1, b_5_1_5_1_4_0_1_1_1, b_5_1_5_1_4_0_2_1_1, b_5_1_5_1_4_1_0_1_1, b_5_1_5_1_4_1_1_1_1, b_5_1_5_1_4_1_2_1_1, b_5_1_5_1_4_2_0_1_1, b_5_1_5_1_4_2_1_1_1, b_5_1_5_1_4_2_2_1_1, b_5_1_5_1_4_3_0_1_1, b_5_1_5_1_4_3_1_1_1, b_5_1_5_1_4_3_2_1_1, trivial⟩

theorem gm_5_1_1_1_1 : ∀ (l4 : Bool) (ss : Fin 4) (dk : Fin 3) (z : Bool), memC ⟨5, 1, lb5 z, 1, (cond l4 4 8), ss.val, dk.val, true, true⟩ g_5_1_1_1_1 = true := by decide +kernel

end Go.Proofs.Ytbenfglhomiocaa.Bak
