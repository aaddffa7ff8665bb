/-
  The law 'ModrmFound': the way, by numbers.
-/
import Derived.Test.YtbenfglhomiocaaFndH
namespace Go.Proofs.Ytbenfglhomiocaa.Fnd
open Go.Sim Go.Proofs.Ytbenfglhomiocaa.Tab
set_option maxRecDepth 100000

def AllF : List Cfg → Prop
  | [] => True
  | c :: l => FA c ∧ AllF l

def bq (a b : Bool) : Bool := cond a b (!b)

def beqC (c d : Cfg) : Bool := Nat.beq c.rm d.rm && Nat.beq c.ss d.ss && Nat.beq c.ix d.ix && Nat.beq c.bs d.bs && bq c.two d.two && bq c.en d.en && bq c.fit d.fit && Nat.beq c.x d.x && Nat.beq c.bb d.bb && Nat.beq c.md d.md

theorem bq_eq : ∀ {a b : Bool}, bq a b = true → a = b := by decide

theorem beqC_eq {c d : Cfg} (h : beqC c d = true) : c = d := by
  simp only [beqC, Bool.and_eq_true] at h
  obtain ⟨⟨⟨⟨⟨⟨⟨⟨⟨h1, h2⟩, h3⟩, h4⟩, h5⟩, h6⟩, h7⟩, h8⟩, h9⟩, h10⟩ := h
  cases c; cases d
  simp only at h1 h2 h3 h4 h5 h6 h7 h8 h9 h10
  obtain rfl := Nat.eq_of_beq_eq_true h1
  obtain rfl := Nat.eq_of_beq_eq_true h2
  obtain rfl := Nat.eq_of_beq_eq_true h3
  obtain rfl := Nat.eq_of_beq_eq_true h4
  obtain rfl := bq_eq h5
  obtain rfl := bq_eq h6
  obtain rfl := bq_eq h7
  obtain rfl := Nat.eq_of_beq_eq_true h8
  obtain rfl := Nat.eq_of_beq_eq_true h9
  obtain rfl := Nat.eq_of_beq_eq_true h10
  rfl

def memC (c : Cfg) : List Cfg → Bool
  | [] => false
  | d :: l => cond (beqC c d) true (memC c l)

theorem memC_all {c : Cfg} : ∀ {l : List Cfg}, memC c l = true → AllF l → FA c
  | [], h, _ => by cases h
  | d :: l, h, ha => by
    unfold memC at h
    cases e : beqC c d
    · rw [e] at h; exact memC_all h ha.2
    · rw [beqC_eq e]; exact ha.1

def kn (n : Nat) : Nat := match n with | 1 => 4 | 2 => 5 | _ => 8

/-- The way, by numbers. -/
def cfgOf (x bb md r ss i b : Nat) (l2 e f : Bool) : Cfg :=
  let rm := cond (Nat.beq md 3) 8 (kn r)
  let sib := Nat.beq rm 4
  let two := sib && l2
  let s := cond two ss 0
  let ix := cond two (cond (Nat.beq (kn i) 5 && !Nat.beq s 0) 8 (kn i)) 0
  let bs := cond two (kn b) 0
  let c : Cfg := ⟨x, bb, md, rm, s, ix, bs, two, true, false⟩
  let en := cond (sib && !two) (Nat.beq md 0) (Nat.beq c.dsp 0 || e)
  ⟨x, bb, md, rm, s, ix, bs, two, en, en && Nat.beq c.dsp 4 && f⟩


end Go.Proofs.Ytbenfglhomiocaa.Fnd
