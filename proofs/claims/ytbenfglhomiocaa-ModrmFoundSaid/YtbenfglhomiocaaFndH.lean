/-
  The law 'ModrmFound', by what the bytes say: what is known on each way.
-/
import Derived.Test.YtbenfglhomiocaaSimM
import Derived.Test.YtbenfglhomiocaaKnownH
namespace Go.Proofs.Ytbenfglhomiocaa.Fnd
open Go.Sim Go.Proofs.Ytbenfglhomiocaa.Tab
set_option maxRecDepth 100000
set_option linter.unusedSimpArgs false

theorem mixF : Try.prog.follows .mixedOrders = true := by kernel_rfl

theorem awakeF [Syms] : CallerOK Try.prog (known 7 yes []) := known_of_run (ids := []) (fuel := 1000) (orc := sc) scO mixF (by kernel_rfl) (by kernel_rfl)

abbrev sF : Nat → Option Addr × Nat := fun _ => (none, 0)

abbrev a (k : Nat) : AV := .sx .i64 (.a k)

abbrev ci (n : Nat) : AV := .v (.int .i64 (.ofNat n))

abbrev bv (b : Bool) : AV := .v (.bool b)

abbrev u (k : Nat) : AV := .sx .u8 (.a k)

abbrev argR : AV := .ry 0 (.c 0) (.a 1) (.a 2)

abbrev rowF : List (Nat × List AV) := [(0, [.row .u8 100 (.a 1)])]

/-- What the bytes say: x, b; mod; rm, scale, index, base (8: a name); is there a second byte; is the displacement whole; does one of four fit in one. -/
structure Cfg where
  x : Nat
  bb : Nat
  md : Nat
  rm : Nat
  ss : Nat
  ix : Nat
  bs : Nat
  two : Bool
  en : Bool
  fit : Bool

def Cfg.sib (c : Cfg) : Bool := Nat.beq c.rm 4 && !Nat.beq c.md 3

def Cfg.dsp (c : Cfg) : Nat :=
  match c.md with
  | 3 => 0
  | 1 => 1
  | 2 => 4
  | _ => cond c.sib (cond (c.two && Nat.beq c.bs 5) 4 0) (cond (Nat.beq c.rm 5) 4 0)

def Cfg.ends (c : Cfg) : Nat := 1 + (cond (c.sib && c.two) 1 0 + cond c.en c.dsp 0)

def pc (k c : Nat) : AV :=
  match c with
  | 8 => a k
  | n => ci n

def num (q k c : Nat) : AV :=
  match c with
  | 8 => .sx .i64 (.wrap .i64 (.add (.c (.ofNat (8 * q))) (.a k)))
  | n => ci (8 * q + n)

def gt (b : Bool) (x : AV) : AV := .tup (cond b [x, ci 0] [ci 0, ci 9])

def lh (cls q k c : Nat) : List (FuncId × List AV × AV) := cond (Nat.beq c 8) [(32, [.agg [ci cls, num q k c]], pc k c), (33, [.agg [ci cls, num q k c]], ci q)] []

/-- Calls of numbers. -/
def tP (c : Cfg) : List (FuncId × List AV × AV) :=
  [(22, [a 9], .tup [ci c.md, a 10, pc 11 c.rm]), (31, [ci c.md, a 10, pc 11 c.rm], u 100), (64, [a 5, ci 8], bv true)] ++ (cond (c.en && Nat.beq c.dsp 4) [(64, [a 6, ci 8], bv c.fit)] [] ++
  (cond c.sib [(22, [a 12], .tup [ci c.ss, pc 14 c.ix, pc 15 c.bs]), (31, [ci c.ss, pc 14 c.ix, pc 15 c.bs], u 101)] [] ++
   (lh 5 c.bb 11 c.rm ++ (lh 6 c.bb 11 c.rm ++ (lh 5 c.x 14 c.ix ++ lh 5 c.bb 15 c.bs)))))

/-- field.Get of the displacement, at q. -/
def dspQ (c : Cfg) (q : Nat) : List (FuncId × List AV × AV) :=
  match c.dsp with
  | 0 => []
  | 1 => [(21, [argR, ci q, ci 1, bv true], gt c.en (a 5))]
  | _ => [(21, [argR, ci q, ci 4, bv true], gt c.en (a 6))]

/-- Calls of field.Get. -/
def tQ (c : Cfg) : List (FuncId × List AV × AV) :=
  (21, [argR, ci 0, ci 1, bv false], gt true (a 9)) :: cond c.sib ((21, [argR, ci 1, ci 1, bv false], gt c.two (a 12)) :: cond c.two (dspQ c 2) []) (dspQ c 1)

def putM (x : AV) (n : Nat) (l : List AV) : ME := ⟨44, [.one (.av x), .one (.av (ci n))], .sl 0 0 n n, [⟨5, false, 1, l⟩]⟩

def Cfg.o (c : Cfg) : Nat := cond c.sib 102 101

/-- Calls of modrm.put. -/
def tM (c : Cfg) : List ME :=
  [putM (a 5) 1 [u c.o], putM (a 6) 4 [u c.o, u (c.o + 1), u (c.o + 2), u (c.o + 3)], putM (a 5) 4 [u 60, u 61, u 62, u 63]] ++ cond c.fit [putM (a 6) 1 [u 64]] []

def bytesF : Nat → Nat → List Fact
  | _, 0 => []
  | k, n + 1 => .ge (.a k) 0 :: .le (.a k) 255 :: bytesF (k + 1) n

/-- What is known. -/
def preF (c : Cfg) : List Fact :=
  [.ge (.a 1) (.ofNat c.ends), .le (.a 1) 30, .ge (.a 2) (.ofNat c.ends), .ge (.a 10) 0, .le (.a 10) 7] ++
  (cond (Nat.beq c.rm 8) ([.ge (.a 11) 0, .le (.a 11) 7] ++ cond (Nat.beq c.md 3) [] [.ne (.a 11) 4, .ne (.a 11) 5]) [] ++
   (cond (Nat.beq c.ix 8) ([.ge (.a 14) 0, .le (.a 14) 7, .ne (.a 14) 4] ++ cond (Nat.beq c.ss 0) [.ne (.a 14) 5] []) [] ++
    (cond (Nat.beq c.bs 8) [.ge (.a 15) 0, .le (.a 15) 7, .ne (.a 15) 4, .ne (.a 15) 5] [] ++
     ([.ge (.a 5) (-128), .le (.a 5) 127, .ge (.a 6) (-2147483648), .le (.a 6) 2147483647] ++ (bytesF 100 6 ++ bytesF 60 5)))))

abbrev argsF (c : Cfg) : List AV := [argR, ci c.x, ci c.bb]

/-- The law, by these calls. -/
def FQ (c : Cfg) (val : Nat → Int) : Prop := TabOK Try.prog val sF (tP c) → TabOKO Try.prog val sF rowF (tQ c) → MTabOK Try.prog val sF (tM c) → LawO Try.prog 5 (argsF c) rowF sF val

theorem lF {c : Cfg} {val : Nat → Int} {F : List Fact} (h : Holds val F) (hc : bAnd ((tP c).all (fun x => bodyOK Try.prog x.1)) (bAnd ((tP c).all (fun x => plain x.2.2 && plains x.2.1)) (bAnd ((tQ c).all (fun x => bodyOK Try.prog x.1)) (bAnd ((tQ c).all (fun x => plain x.2.2)) (bAnd ((tM c).all (meOK Try.prog))
    (saysTrue (@runO (symsOf val F h sF) Try.prog (orElse (known 7 yes []) (orElse (@sc (symsOf val F h sF)) (orElse (tabO (tP c)) (orElse (tabOO rowF (tQ c)) (@mTab (symsOf val F h sF) (tM c)))))) 1000 5 (argsF c) rowF)))))) = true) : FQ c val := by
  obtain ⟨h1, hc⟩ := bAnd_true hc
  obtain ⟨h2, hc⟩ := bAnd_true hc
  obtain ⟨h3, hc⟩ := bAnd_true hc
  obtain ⟨h4, hc⟩ := bAnd_true hc
  obtain ⟨h5, h6⟩ := bAnd_true hc
  intro t1 t2 t3
  exact lawO_of h (@orElse_sound Try.prog (symsOf val F h sF) _ _ (@awakeF (symsOf val F h sF)) (@orElse_sound Try.prog (symsOf val F h sF) _ _ (@scO (symsOf val F h sF)) (@orElse_sound Try.prog (symsOf val F h sF) _ _ (tabOK_sound h h1 h2 t1) (@orElse_sound Try.prog (symsOf val F h sF) _ _ (tabOO_sound h h3 h4 t2) (mTabOK_sound h h5 t3)))))
    mixF ⟨Nat.zero_lt_one, trivial, trivial, trivial⟩ rfl h6

/-- All of this kind. -/
abbrev FA (c : Cfg) : Prop := ∀ val, Holds val (preF c) → FQ c val

end Go.Proofs.Ytbenfglhomiocaa.Fnd
