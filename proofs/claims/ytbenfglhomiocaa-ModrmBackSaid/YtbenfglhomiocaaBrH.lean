/-
  modrm.Read at any number of any slice, by what stands there.
-/
import Derived.Test.YtbenfglhomiocaaSimC
import Derived.Test.YtbenfglhomiocaaKnownH
namespace Go.Proofs.Ytbenfglhomiocaa.Br
open Go.Sim Go.Proofs.Ytbenfglhomiocaa.Tab
set_option maxRecDepth 100000
set_option linter.unusedSimpArgs false

theorem mixR : Try.prog.follows .mixedOrders = true := by kernel_rfl

abbrev sR : Nat → Option Addr × Nat := fun _ => (none, 0)

abbrev a (k : Nat) : AV := .sx .i64 (.a k)

abbrev ci (n : Nat) : AV := .v (.int .i64 (.ofNat n))

abbrev bv (b : Bool) : AV := .v (.bool b)

abbrev argR : AV := .ry 0 (.c 0) (.a 1) (.a 2)

abbrev rowR : List (Nat × List AV) := [(0, [.row .u8 100 (.a 1)])]

/-- What stands there. t: 0 a register, 1 nothing but a displacement, 2 rip, 3 a base, 4 a base behind a SIB, 5 an index alone, 6 both; md: mod; x, b; ss: the scale's number; lb, li: low part of base, index (8: a name). -/
structure RK where
  t : Nat
  md : Nat
  x : Nat
  b : Nat
  ss : Nat
  lb : Nat
  li : Nat

def pc (k c : Nat) : AV :=
  match c with
  | 8 => a k
  | n => ci n

def num (q k c : Nat) : AV :=
  match c with
  | 8 => .sx .i64 (.wrap .i64 (.add (.c (.ofNat (8 * q))) (.a k)))
  | n => ci (8 * q + n)

def RK.sib (r : RK) : Bool := Nat.beq r.t 1 || Nat.ble 4 r.t

def RK.dsp (r : RK) : Nat :=
  match r.md with
  | 3 => 0
  | 1 => 1
  | 2 => 4
  | _ => cond (Nat.beq r.t 1 || (Nat.beq r.t 2 || Nat.beq r.t 5)) 4 0

abbrev at1 : SX := .wrap .i64 (.add (.a 3) (.c 1))

abbrev at2 : SX := .wrap .i64 (.add at1 (.c 1))

def RK.rm (r : RK) : AV := match r.t with | 0 => a 11 | 3 => a 11 | 2 => ci 5 | _ => ci 4

def RK.sibT (r : RK) : List AV := match r.t with | 1 => [ci 0, ci 4, ci 5] | 4 => [ci 0, ci 4, pc 11 r.lb] | 5 => [ci r.ss, pc 14 r.li, ci 5] | _ => [ci r.ss, pc 14 r.li, pc 11 r.lb]

/-- Calls of numbers. -/
def tP (r : RK) : List (FuncId × List AV × AV) := [(22, [a 9], .tup [ci r.md, a 10, r.rm]), (22, [a 12], .tup r.sibT)]

def gt (b : Bool) (x : AV) : AV := .tup (cond b [x, ci 0] [ci 0, ci 9])

def RK.dAt (r : RK) : SX := cond r.sib at2 at1

/-- Calls of field.Get: k: 0 all is there, 1 no head, 2 no SIB, 3 no displacement. -/
def tQ (r : RK) (k : Nat) : List (FuncId × List AV × AV) :=
  (21, [argR, a 3, ci 1, bv false], gt (!Nat.beq k 1) (a 9)) :: cond (Nat.beq k 1) [] (cond r.sib [(21, [argR, .sx .i64 at1, ci 1, bv false], gt (!Nat.beq k 2) (a 12))] [] ++
    cond (Nat.beq k 2) [] (match r.dsp with | 0 => [] | n => [(21, [argR, .sx .i64 r.dAt, ci n, bv true], gt (!Nat.beq k 3) (a 6))]))

/-- What is known. -/
def preR (r : RK) : List Fact :=
  [.ge (.a 1) 0, .le (.a 1) 4611686018427387904, .ge (.a 3) 0, .le (.a 3) 4611686018427387904, .at (.lt (.a 1) (.a 3)) false, .ge (.a 11) 0, .le (.a 11) 7, .ge (.a 14) 0, .le (.a 14) 7, .ge (.a 6) (-2147483648), .le (.a 6) 2147483647] ++
  (cond (Nat.beq r.t 3) [.ne (.a 11) 4] [] ++
  (cond (Nat.beq r.lb 8 && (Nat.beq r.t 4 || (Nat.beq r.t 6 || (Nat.beq r.t 3 && Nat.beq r.md 0)))) [.ne (.a 11) 5] [] ++ cond (Nat.beq r.li 8) [.ne (.a 14) 4] []))

def RK.base (r : RK) : List AV := match r.t with | 2 => [ci 8, ci 0] | 1 => [ci 0, ci 0] | 5 => (match r.ss with | 0 => [ci 5, num r.x 14 r.li] | _ => [ci 0, ci 0]) | _ => [ci 5, num r.b 11 r.lb]

def RK.index (r : RK) : List AV := match r.t with | 5 => (match r.ss with | 0 => [ci 0, ci 0] | _ => [ci 5, num r.x 14 r.li]) | 6 => [ci 5, num r.x 14 r.li] | _ => [ci 0, ci 0]

def RK.scale (r : RK) : AV := match r.t with | 5 => (match r.ss with | 0 => ci 0 | 1 => ci 2 | 2 => ci 4 | _ => ci 8) | 6 => (match r.ss with | 0 => ci 1 | 1 => ci 2 | 2 => ci 4 | _ => ci 8) | _ => ci 0

def RK.disp (r : RK) : AV := match r.dsp with | 0 => ci 0 | _ => a 6

def RK.ends (r : RK) : SX :=
  let e := cond r.sib at2 at1
  match r.dsp with | 0 => e | n => .wrap .i64 (.add e (.c (.ofNat n)))

/-- What Read gives. -/
def RK.seen (r : RK) : AV :=
  .tup [.agg (match r.t with | 0 => [a 10, num r.b 11 8, ci 0, ci 0, ci 0, ci 0, ci 0, ci 0, ci 0, .sx .i64 at1] | _ => [a 10, .v (.int .i64 (-1))] ++ (r.base ++ (r.index ++ [r.scale, r.disp, ci 0, .sx .i64 r.ends]))), ci 0]

def cutR : AV := .tup [.agg [ci 0, ci 0, ci 0, ci 0, ci 0, ci 0, ci 0, ci 0, ci 0, ci 0], ci 9]

def RK.res (r : RK) (k : Nat) : AV := match k with | 0 => r.seen | _ => cutR

noncomputable def givesV (u : Option (AV × AS)) (v : AV) : Bool := match u, v with | some (.tup xs, _), .tup ys => avEqs xs ys | _, _ => false

theorem retOV {val : Nat → Int} {F : List Fact} (h : Holds val F) {sla : Nat → Option Addr × Nat} {orc : Caller} {fuel : Nat} {f : FuncId} {args : List AV} {outs : List (Nat × List AV)} {v : AV} (ho : @CallerOK (symsOf val F h sla) Try.prog orc)
    (hmix : Try.prog.follows .mixedOrders = true) (ha : wfVs (· < outs.length) args) (hpl : outs.all plainO = true) (hp : plain v = true) (hg : givesV (@runO (symsOf val F h sla) Try.prog orc fuel f args outs) v = true) :
    RetO Try.prog f args outs sla val (@conc (nameS val sla) E0 v) := by
  intro E w hout
  letI I := symsOf val F h sla
  have hout' : @OutOK (symsOf val F h sla) E w outs := by
    intro k o hk
    obtain ⟨h1, h2, h3⟩ := hout k o hk
    refine ⟨h1, fun hne i v hv => ?_, h3⟩
    rw [h2 hne i v hv, conc_val (I := nameS val sla) (J := symsOf val F h sla) rfl rfl]
  rw [concs_val (I := nameS val sla) (J := symsOf val F h sla) rfl rfl, conc_val (I := nameS val sla) (J := symsOf val F h sla) rfl rfl]
  unfold givesV at hg
  split at hg
  · rename_i xs S' ys hr
    have e := avEqs_sound _ _ hg
    subst e
    refine (runO_sound ho hmix hr ha hpl E w hout').mono fun e w' he => ?_
    obtain ⟨E', rfl, hb⟩ := he
    exact ⟨congrArg Ending.returned (plain_conc (E := E') (E' := E0) _ hp), hb⟩
  · cases hg

abbrev argsR (r : RK) : List AV := [argR, a 3, ci r.x, ci r.b]

/-- Read, by these calls. -/
def RQ (r : RK) (k : Nat) (val : Nat → Int) : Prop := TabOK Try.prog val sR (tP r) → TabOKO Try.prog val sR rowR (tQ r k) → RetO Try.prog 9 (argsR r) rowR sR val (@conc (nameS val sR) E0 (r.res k))

theorem lR {r : RK} {k : Nat} {val : Nat → Int} {F : List Fact} (h : Holds val F) (hc : bAnd ((tP r).all (fun x => bodyOK Try.prog x.1)) (bAnd ((tP r).all (fun x => plain x.2.2 && plains x.2.1)) (bAnd ((tQ r k).all (fun x => bodyOK Try.prog x.1)) (bAnd ((tQ r k).all (fun x => plain x.2.2)) (bAnd (plain (r.res k))
    (givesV (@runO (symsOf val F h sR) Try.prog (orElse (@sc (symsOf val F h sR)) (orElse (tabO (tP r)) (tabOO rowR (tQ r k)))) 1000 9 (argsR r) rowR) (r.res k)))))) = true) : RQ r k val := by
  obtain ⟨h1, hc⟩ := bAnd_true hc
  obtain ⟨h2, hc⟩ := bAnd_true hc
  obtain ⟨h3, hc⟩ := bAnd_true hc
  obtain ⟨h4, hc⟩ := bAnd_true hc
  obtain ⟨h5, h6⟩ := bAnd_true hc
  intro t1 t2
  exact retOV h (@orElse_sound Try.prog (symsOf val F h sR) _ _ (@scO (symsOf val F h sR)) (@orElse_sound Try.prog (symsOf val F h sR) _ _ (tabOK_sound h h1 h2 t1) (tabOO_sound h h3 h4 t2)))
    mixR ⟨Nat.zero_lt_one, trivial, trivial, trivial, trivial⟩ (by rfl) h5 h6

/-- All of this kind. -/
abbrev RA (r : RK) (k : Nat) : Prop := ∀ val, Holds val (preR r) → RQ r k val

end Go.Proofs.Ytbenfglhomiocaa.Br
