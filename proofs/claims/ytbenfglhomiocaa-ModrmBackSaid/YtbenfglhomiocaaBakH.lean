/-
  The law 'ModrmBack', by the operand's kind: what is known on each way.
-/
import Derived.Test.YtbenfglhomiocaaSimM
import Derived.Test.YtbenfglhomiocaaSimL
import Derived.Test.YtbenfglhomiocaaKnownH
namespace Go.Proofs.Ytbenfglhomiocaa.Bak
open Go.Sim Go.Proofs.Ytbenfglhomiocaa.Tab
set_option maxRecDepth 100000
set_option linter.unusedSimpArgs false

theorem mixB : Try.prog.follows .mixedOrders = true := by kernel_rfl

theorem knownB [Syms] : CallerOK Try.prog (known 4 yes []) := known_of_run (ids := []) (fuel := 1000) (orc := sc) scO mixB (by kernel_rfl) (by kernel_rfl)

abbrev a (k : Nat) : AV := .sx .i64 (.a k)

abbrev ci (n : Nat) : AV := .v (.int .i64 (.ofNat n))

abbrev bv (b : Bool) : AV := .v (.bool b)

abbrev u (k : Nat) : AV := .sx .u8 (.a k)

abbrev u0 : AV := .v (.int .u8 0)

/-- kd: 0 a register, 1 nothing but a displacement, 2 rip, 3 a base, 4 an index, 5 both. hb, lb, hi, li: high and low part of base, index (8: a name). ss: the scale's number. dk: the displacement is 0: zero, 1: such as fits in 8, 2: any. ah, be: are there bytes ahead, behind? -/
structure Cfg where
  kd : Nat
  hb : Nat
  lb : Nat
  hi : Nat
  li : Nat
  ss : Nat
  dk : Nat
  ah : Bool
  be : Bool

def pc (k c : Nat) : AV :=
  match c with
  | 8 => a k
  | n => ci n

def num (q k c : Nat) : AV :=
  match c with
  | 8 => .sx .i64 (.wrap .i64 (.add (.c (.ofNat (8 * q))) (.a k)))
  | n => ci (8 * q + n)

def Cfg.disp (c : Cfg) : AV := match c.dk with | 0 => ci 0 | _ => a 6

def Cfg.isB (c : Cfg) : Bool := Nat.beq c.kd 3 || Nat.beq c.kd 5

def Cfg.isI (c : Cfg) : Bool := Nat.beq c.kd 4 || Nat.beq c.kd 5

def Cfg.base (c : Cfg) : List AV := cond c.isB [ci 5, num c.hb 11 c.lb] (cond (Nat.beq c.kd 2) [ci 8, ci 0] [ci 0, ci 0])

def Cfg.index (c : Cfg) : List AV := cond c.isI [ci 5, num c.hi 14 c.li] [ci 0, ci 0]

def Cfg.scale (c : Cfg) : AV := cond c.isI (match c.ss with | 0 => ci 1 | 1 => ci 2 | 2 => ci 4 | _ => ci 8) (ci 0)

/-- The place, as it is written best. -/
def Cfg.mem (c : Cfg) (sz : AV) : List AV := c.base ++ (c.index ++ [c.scale, c.disp, sz])

def Cfg.d1 (c : Cfg) : List AV := match c.dk with | 0 => [u0] | _ => [u 60]

def Cfg.d4 (c : Cfg) : List AV := match c.dk with | 0 => [u0, u0, u0, u0] | _ => [u 61, u 62, u 63, u 64]

/-- A place with a base, with each displacement that may be. -/
def Cfg.spread (c : Cfg) (h : Nat) (sib : List AV) (x : Nat) : List (List AV × Nat × Nat) :=
  cond (Nat.beq c.dk 0 && !Nat.beq c.lb 5) [(u h :: sib, x, c.hb)] [] ++ (cond (Nat.ble c.dk 1) [(u (h + 1) :: (sib ++ c.d1), x, c.hb)] [] ++ [(u (h + 2) :: (sib ++ c.d4), x, c.hb)])

/-- The ways: the bytes, X, B. -/
def Cfg.ways (c : Cfg) : List (List AV × Nat × Nat) :=
  match c.kd with
  | 0 => [([u 23], 0, c.hb)]
  | 1 => [([u 24, .v (.int .u8 37)] ++ c.d4, 0, 0)]
  | 2 => [([u 28] ++ c.d4, 0, 0)]
  | 3 => cond (Nat.beq c.lb 4) [] (c.spread 20 [] 0) ++ (c.spread 24 [u 31] 0 ++ cond (Nat.beq c.lb 4 && Nat.beq c.hb 0) [] [([u 24, u 32] ++ c.d4, c.hb, 0)])
  | 4 => [([u 24, u 34] ++ c.d4, c.hi, 0)]
  | _ => c.spread 24 [u 30] c.hi

def Cfg.kind (c : Cfg) : AV := match c.kd with | 0 => ci 1 | _ => ci 2

/-- The operand. -/
def Cfg.arg (c : Cfg) : AV := .agg [c.kind, a 41, a 42, a 43, a 44, a 45, a 46, a 47, a 48, a 49, a 50]

def rgT (r : List AV) (q : Nat) (x : AV) : List (FuncId × List AV × AV) := [(32, [.agg r], x), (33, [.agg r], ci q)]

/-- Calls of numbers. -/
def tP (c : Cfg) : List (FuncId × List AV × AV) :=
  (30, [c.arg], ci 0) :: (cond (Nat.beq c.kd 0) [] [(25, [.agg [a 43, a 44, a 45, a 46, a 47, a 48, a 49]], .tup [.agg (c.mem (a 7)), ci 0])] ++
  (cond (Nat.beq c.kd 0) ([(31, [ci 3, a 10, a 11], u 23)] ++ rgT [a 41, a 42] c.hb (a 11)) [] ++
  (cond (Nat.beq c.kd 2) [(31, [ci 0, a 10, ci 5], u 28)] [] ++
  (cond c.isB (rgT c.base c.hb (pc 11 c.lb)) [] ++
  (cond c.isI (rgT c.index c.hi (pc 14 c.li)) [] ++
  ([(31, [ci 0, a 10, ci 4], u 24), (31, [ci 1, a 10, ci 4], u 25), (31, [ci 2, a 10, ci 4], u 26)] ++
  (cond (Nat.beq c.kd 3) (cond (Nat.beq c.lb 4) [] [(31, [ci 0, a 10, pc 11 c.lb], u 20), (31, [ci 1, a 10, pc 11 c.lb], u 21), (31, [ci 2, a 10, pc 11 c.lb], u 22)] ++ [(31, [ci 0, ci 4, pc 11 c.lb], u 31), (31, [ci 0, pc 11 c.lb, ci 5], u 32)]) [] ++
  (cond (Nat.beq c.kd 4) [(31, [ci c.ss, pc 14 c.li, ci 5], u 34)] [] ++
  (cond (Nat.beq c.kd 5) [(31, [ci c.ss, pc 14 c.li, pc 11 c.lb], u 30)] [] ++
  (cond (c.isB && !Nat.beq c.dk 0) [(64, [a 6, ci 8], bv (Nat.beq c.dk 1))] [] ++
   [(20, [a 8, ci 1], ci 0), (20, [a 8, ci 2], a 72), (20, [a 8, ci 3], a 73), (20, [a 8, ci 5], a 75), (20, [a 8, ci 6], a 76)]))))))))))

def putM (x : AV) (n : Nat) (l : List AV) : ME := ⟨44, [.one (.av x), .one (.av (ci n))], .sl 0 0 n n, [⟨5, false, 1, l⟩]⟩

/-- Calls of modrm.put. -/
def tM (c : Cfg) : List ME := cond (Nat.ble c.dk 1) [putM c.disp 1 c.d1] [] ++ [putM c.disp 4 c.d4]

/-- What Read tells of a way. -/
def Cfg.seen (c : Cfg) (n : Nat) : AV :=
  .tup [.agg (cond (Nat.beq c.kd 0) [a 10, a 42, ci 0, ci 0, ci 0, ci 0, ci 0, ci 0, ci 0, .sx .i64 (.wrap .i64 (.add (.a 1) (.c (.ofNat n))))] ([a 10, .v (.int .i64 (-1))] ++ (c.mem (ci 0) ++ [.sx .i64 (.wrap .i64 (.add (.a 1) (.c (.ofNat n))))]))), ci 0]

def cutR : AV := .tup [.agg [ci 0, ci 0, ci 0, ci 0, ci 0, ci 0, ci 0, ci 0, ci 0, ci 0], ci 9]

def Cfg.offs (c : Cfg) : SX := cond c.ah (.a 1) (.c 0)

/-- Calls of modrm.Read: a way, behind bytes and ahead of others; a way cut short. -/
def lE (c : Cfg) : List LE := c.ways.flatMap fun w =>
  ⟨9, none, c.offs, w.1, [a 1, ci w.2.1, ci w.2.2], c.seen w.1.length⟩ :: cond (Nat.ble w.1.length 1) [] [⟨9, some (.a (70 + w.1.length)), .c 0, w.1, [ci 0, ci w.2.1, ci w.2.2], cutR⟩]

def bytesF : List Nat → List Fact
  | [] => []
  | k :: l => .ge (.a k) 0 :: .le (.a k) 255 :: bytesF l

def neF (k : Nat) : List Nat → List Fact
  | [] => []
  | j :: l => cond (Nat.beq k j) (neF k l) (.at (.eq (.a k) (.a j)) false :: neF k l)

/-- What is known. -/
def preB (c : Cfg) : List Fact :=
  [.ge (.a 10) 0, .le (.a 10) 7] ++
  (cond (Nat.beq c.lb 8) ([.ge (.a 11) 0, .le (.a 11) 7] ++ (cond (Nat.beq c.kd 3) [.ne (.a 11) 4] [] ++ cond (Nat.beq c.kd 0) [] [.ne (.a 11) 5])) [] ++
  (cond (Nat.beq c.li 8) [.ge (.a 14) 0, .le (.a 14) 7, .ne (.a 14) 4] [] ++
  (cond (Nat.beq c.dk 0) [] [.ge (.a 6) (-2147483648), .le (.a 6) 2147483647, .ne (.a 6) 0] ++
  ([.ge (.a 72) 0, .le (.a 72) 1, .ge (.a 73) 0, .le (.a 73) 2, .ge (.a 75) 0, .le (.a 75) 4, .ge (.a 76) 0, .le (.a 76) 5] ++
  (cond c.isB (cond (Nat.beq c.kd 3) (cond (Nat.beq c.lb 4) [] (neF 20 [21, 22, 24, 25, 26] ++ (neF 21 [20, 22, 24, 25, 26] ++ (neF 22 [20, 21, 24, 25, 26] ++ (neF 24 [20, 21, 22] ++ (neF 25 [20, 21, 22] ++ neF 26 [20, 21, 22]))))) ++ (neF 31 [32] ++ neF 32 [31])) [] ++
    (neF 24 [25, 26] ++ (neF 25 [24, 26] ++ (neF 26 [24, 25] ++ bytesF [20, 21, 22, 24, 25, 26, 30, 31, 32, 60, 61, 62, 63, 64])))) [] ++
  (cond c.ah [.ge (.a 1) 1, .le (.a 1) 30] [.is (.a 1) 0] ++ cond c.be [.ge (.a 3) 1, .le (.a 3) 30] [.is (.a 3) 0]))))))

def argsB (c : Cfg) : List AV := [a 10, c.arg, cond c.ah (.ry 0 (.c 0) (.a 1) (.a 2)) (.osl 1), cond c.be (.ry (cond c.ah 1 0) (.c 0) (.a 3) (.a 4)) (.osl 3), a 8]

def outsB (c : Cfg) : List (Nat × List AV) := cond c.ah [(0, [.row .u8 100 (.a 1)])] [] ++ cond c.be [(0, [.row .u8 200 (.a 3)])] []

/-- The law, by these calls. -/
def BQ (c : Cfg) (val : Nat → Int) (sla : Nat → Option Addr × Nat) : Prop := TabOK Try.prog val sla (tP c) → MTabOK Try.prog val sla (tM c) → LslOK Try.prog val sla (lE c) → LawO Try.prog 6 (argsB c) (outsB c) sla val

theorem lB {c : Cfg} {val : Nat → Int} {sla : Nat → Option Addr × Nat} {F : List Fact} (h : Holds val F) (hw : wfVs (· < (outsB c).length) (argsB c)) (hc : bAnd ((tP c).all (fun x => bodyOK Try.prog x.1)) (bAnd ((tP c).all (fun x => plain x.2.2 && plains x.2.1)) (bAnd ((tM c).all (meOK Try.prog)) (bAnd ((lE c).all (leOK Try.prog)) (bAnd ((outsB c).all plainO)
    (saysTrue (@runO (symsOf val F h sla) Try.prog (orElse (known 4 yes []) (orElse (tabO (tP c)) (orElse (@mTab (symsOf val F h sla) (tM c)) (@lslO (symsOf val F h sla) (lE c))))) 1000 6 (argsB c) (outsB c))))))) = true) : BQ c val sla := by
  obtain ⟨h1, hc⟩ := bAnd_true hc
  obtain ⟨h2, hc⟩ := bAnd_true hc
  obtain ⟨h3, hc⟩ := bAnd_true hc
  obtain ⟨h4, hc⟩ := bAnd_true hc
  obtain ⟨h5, h6⟩ := bAnd_true hc
  intro t1 t2 t3
  exact lawO_of h (@orElse_sound Try.prog (symsOf val F h sla) _ _ (@knownB (symsOf val F h sla)) (@orElse_sound Try.prog (symsOf val F h sla) _ _ (tabOK_sound h h1 h2 t1) (@orElse_sound Try.prog (symsOf val F h sla) _ _ (mTabOK_sound h h3 t2) (lslO_sound h h4 t3))))
    mixB hw h5 h6

/-- All of this kind. -/
abbrev BA (c : Cfg) : Prop := ∀ val sla, Holds val (preB c) → BQ c val sla

theorem wfB (c : Cfg) : wfVs (· < (outsB c).length) (argsB c) := by
  obtain ⟨kd, hb, lb, hi, li, ss, dk, ah, be⟩ := c
  refine ⟨trivial, ?_, ?_, ?_, trivial, trivial⟩
  · show wfV _ (match kd with | 0 => ci 1 | _ => ci 2) ∧ _
    refine ⟨?_, trivial, trivial, trivial, trivial, trivial, trivial, trivial, trivial, trivial, trivial, trivial⟩
    split <;> trivial
  · cases ah
    · trivial
    · cases be
      · show (0 : Nat) < 1; omega
      · show (0 : Nat) < 2; omega
  · cases be
    · trivial
    · cases ah
      · show (0 : Nat) < 1; omega
      · show (1 : Nat) < 2; omega

end Go.Proofs.Ytbenfglhomiocaa.Bak
