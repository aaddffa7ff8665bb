/-
  The law 'InstTells', by lengths and by what Canon gives: what is known on each way.
-/
import Derived.Test.YtndiilfjeconbaaSimI
import Derived.Test.YtndiilfjeconbaaKnownH
import Derived.Test.YtndiilfjeconbaaSamH
namespace Go.Proofs.Ytndiilfjeconbaa.Tab
open Go.Sim
set_option maxRecDepth 100000
set_option linter.unusedSimpArgs false

theorem awakeT [Syms] : CallerOK Try.prog (known 13 yes []) := known_of_run (ids := []) (fuel := 1000) (orc := sc) scO mixK (by kernel_rfl) (by kernel_rfl)

/-! Lengths: 0 nil, 10 none and not nil, else so many. -/

def argT (b o k L : Nat) : AV :=
  match L with
  | 0 => .agg [a o, nilS]
  | 10 => .agg [a o, .osl k]
  | n => .agg [a o, .os b 0 n k 0]

def outT (c L : Nat) : List (Nat × List AV) :=
  match L with
  | 0 => []
  | 10 => []
  | n => [(11, sxs (upX c (11 * n)))]

def patsT (c o L : Nat) : List Pt :=
  match L with
  | 0 => [.ag [.av (a o), .av nilS], .ag [.av (a o), .em]]
  | 10 => [.ag [.av (a o), .av nilS], .ag [.av (a o), .em]]
  | n => [.ag [.av (a o), .sl 11 (sxs (upX c (11 * n)))]]

/-- What Canon gives: 0 an error, 7 none, else as 'f16' and 'f17' say. -/
def canT (fm : Nat) (ps : List Pt) : List ME :=
  match fm with
  | 0 => ps.flatMap fun p => [⟨16, [p], errO 7, []⟩, ⟨17, [p], errO 7, []⟩]
  | 7 => match ps with
    | [pn, pe] => [⟨16, [pn], nV (a 0), []⟩, ⟨17, [pn], nV (a 0), []⟩, ⟨16, [pe], eV (a 0), [lB []]⟩, ⟨17, [pe], nV (a 0), []⟩]
    | _ => []
  | m => ps.flatMap fun p => [⟨16, [p], (f16 m (a 0) (sxs (upX 100 (11 * fmLen m)))).1, (f16 m (a 0) (sxs (upX 100 (11 * fmLen m)))).2⟩, ⟨17, [p], (f17 m (a 0) (sxs (upX 100 (11 * fmLen m)))).1, (f17 m (a 0) (sxs (upX 100 (11 * fmLen m)))).2⟩]

def plainT (fm : Nat) (p : Pt) : List ME := [⟨12, [p], .tup [a 5, bo 6], []⟩, ⟨18, [p], .tup [a 5, bo 6], []⟩, ⟨11, [p], cond (Nat.beq fm 0) (a 7) (ci 0), []⟩, ⟨19, [p], cond (Nat.beq fm 0) (a 7) (ci 0), []⟩]

def sameT (p q : Pt) : List ME := [⟨14, [p, q], bo 8, []⟩, ⟨21, [p, q], bo 8, []⟩]

def meT (L fm M : Nat) : List ME := (patsT 200 0 L).flatMap (plainT fm) ++ (canT fm (patsT 200 0 L) ++ (patsT 200 0 L).flatMap fun p => (patsT 400 1 M).flatMap (sameT p))

def slE (ad : Addr) (c : Nat) (ad' : Addr) (c' : Nat) : Nat → Option Addr × Nat := fun k => match k with | 2 => (some ad, c) | _ => (some ad', c')

def bOf' (L : Nat) : Nat :=
  match L with
  | 0 => 0
  | 10 => 0
  | _ => 1

abbrev argsT (L M : Nat) : List AV := [argT 0 0 2 L, argT (bOf' L) 1 3 M]

abbrev outsT (L M : Nat) : List (Nat × List AV) := outT 200 L ++ outT 400 M

abbrev TelQ (L fm M : Nat) (val : Nat → Int) : Prop := ∀ ad c ad' c', MTabOK Try.prog val (slE ad c ad' c') (meT L fm M) → LawO Try.prog 5 (argsT L M) (outsT L M) (slE ad c ad' c') val

theorem leafT' {L fm M : Nat} {val : Nat → Int} {F : List Fact} (h : Holds val F) (hw : wfVs (· < (outsT L M).length) (argsT L M)) (hc : bAnd ((outsT L M).all plainO) ((meT L fm M).all (meOK Try.prog)) = true)
    (hg : ∀ ad c ad' c', saysTrue (@runO (symsOf val F h (slE ad c ad' c')) Try.prog (orElse (known 13 yes []) (@mTab (symsOf val F h (slE ad c ad' c')) (meT L fm M))) 1000 5 (argsT L M) (outsT L M)) = true) : TelQ L fm M val :=
  fun ad c ad' c' ht => lawO_of h (@orElse_sound Try.prog (symsOf val F h (slE ad c ad' c')) _ _ (@awakeT (symsOf val F h (slE ad c ad' c'))) (mTabOK_sound h (bAnd_true hc).2 ht)) mixK hw (bAnd_true hc).1 (hg ad c ad' c')

theorem wfT {L M : Nat} (hL : L ≤ 10) (hM : M ≤ 10) : wfVs (· < (outsT L M).length) (argsT L M) := by
  have h1 : L = 0 ∨ L = 10 ∨ (1 ≤ L ∧ L ≤ 9) := by omega
  have h2 : M = 0 ∨ M = 10 ∨ (1 ≤ M ∧ M ≤ 9) := by omega
  have e : ∀ {K : Nat}, 1 ≤ K ∧ K ≤ 9 → (∀ b o k, argT b o k K = .agg [a o, .os b 0 K k 0]) ∧ (∀ c, outT c K = [(11, sxs (upX c (11 * K)))]) ∧ bOf' K = 1 := by
    intro K h
    have h' : K = 1 ∨ K = 2 ∨ K = 3 ∨ K = 4 ∨ K = 5 ∨ K = 6 ∨ K = 7 ∨ K = 8 ∨ K = 9 := by omega
    rcases h' with rfl | rfl | rfl | rfl | rfl | rfl | rfl | rfl | rfl <;> exact ⟨fun _ _ _ => rfl, fun _ => rfl, rfl⟩
  rcases h1 with rfl | rfl | h1 <;> rcases h2 with rfl | rfl | h2
  · exact ⟨⟨trivial, trivial, trivial⟩, ⟨trivial, trivial, trivial⟩, trivial⟩
  · exact ⟨⟨trivial, trivial, trivial⟩, ⟨trivial, trivial, trivial⟩, trivial⟩
  · rw [argsT, outsT, (e h2).1, (e h2).2.1]; exact ⟨⟨trivial, trivial, trivial⟩, ⟨trivial, Nat.zero_lt_succ _, trivial⟩, trivial⟩
  · exact ⟨⟨trivial, trivial, trivial⟩, ⟨trivial, trivial, trivial⟩, trivial⟩
  · exact ⟨⟨trivial, trivial, trivial⟩, ⟨trivial, trivial, trivial⟩, trivial⟩
  · rw [argsT, outsT, (e h2).1, (e h2).2.1]; exact ⟨⟨trivial, trivial, trivial⟩, ⟨trivial, Nat.zero_lt_succ _, trivial⟩, trivial⟩
  · rw [argsT, outsT, (e h1).1, (e h1).2.1]; exact ⟨⟨trivial, Nat.zero_lt_succ _, trivial⟩, ⟨trivial, trivial, trivial⟩, trivial⟩
  · rw [argsT, outsT, (e h1).1, (e h1).2.1]; exact ⟨⟨trivial, Nat.zero_lt_succ _, trivial⟩, ⟨trivial, trivial, trivial⟩, trivial⟩
  · rw [argsT, outsT, (e h1).1, (e h1).2.1, (e h1).2.2, (e h2).1, (e h2).2.1]; exact ⟨⟨trivial, Nat.zero_lt_succ _, trivial⟩, ⟨trivial, Nat.lt_succ_self _, trivial⟩, trivial⟩

/-- A way, run. -/
theorem lT {L fm M : Nat} {val : Nat → Int} {F : List Fact} (h : Holds val F)
    (hg : ∀ ad c ad' c', bAnd (bAnd (Nat.ble L 10) (Nat.ble M 10)) (bAnd (bAnd ((outsT L M).all plainO) ((meT L fm M).all (meOK Try.prog)))
      (saysTrue (@runO (symsOf val F h (slE ad c ad' c')) Try.prog (orElse (known 13 yes []) (@mTab (symsOf val F h (slE ad c ad' c')) (meT L fm M))) 1000 5 (argsT L M) (outsT L M)))) = true) : TelQ L fm M val :=
  fun ad c ad' c' => have k := bAnd_true (hg ad c ad' c'); leafT' h (wfT (Nat.le_of_ble_eq_true (bAnd_true k.1).1) (Nat.le_of_ble_eq_true (bAnd_true k.1).2)) (bAnd_true k.2).1 (fun ad c ad' c' => (bAnd_true (bAnd_true (hg ad c ad' c')).2).2) ad c ad' c'

/-- More than nine. -/
abbrev LongQ (sla : Nat → Option Addr × Nat) (val : Nat → Int) : Prop := LawO Try.prog 5 [.agg [a 0, .osl 2], .agg [a 1, .osl 3]] [] sla val

theorem longA {val : Nat → Int} {sla : Nat → Option Addr × Nat} (h : Holds val [.ge (.a 2) 10, .ge (.a 3) 0]) : LongQ sla val :=
  lawO_of (fuel := 1000) h (@awakeT (symsOf val _ h sla)) mixK ⟨⟨trivial, trivial, trivial⟩, ⟨trivial, trivial, trivial⟩, trivial⟩ rfl (by kernel_rfl)

theorem longB {val : Nat → Int} {sla : Nat → Option Addr × Nat} (h : Holds val [.ge (.a 2) 0, .le (.a 2) 9, .ge (.a 3) 10]) : LongQ sla val :=
  lawO_of (fuel := 1000) h (@awakeT (symsOf val _ h sla)) mixK ⟨⟨trivial, trivial, trivial⟩, ⟨trivial, trivial, trivial⟩, trivial⟩ rfl (by kernel_rfl)

end Go.Proofs.Ytndiilfjeconbaa.Tab
