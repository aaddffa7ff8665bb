/-
  Names of a form's parts, an instruction's, its operands'.
-/
import Derived.Test.YtlggmhchgicjkaaSimI
import Derived.Test.YtlggmhchgicjkaaKnownH
namespace Go.Proofs.Ytlggmhchgicjkaa.Tab
open Go.Sim
set_option maxRecDepth 100000

abbrev a (k : Nat) : AV := .sx .i64 (.a k)

abbrev bo (k : Nat) : AV := .sb (.eq (.a k) (.c 1))

abbrev ci (n : Int) : AV := .v (.int .i64 n)

abbrev nilS : AV := .v (.slice none 0 0)

abbrev shR : AV := .ry 0 (.c 0) (.a 11) (.a 12)

abbrev slR : AV := .ry 1 (.c 0) (.a 13) (.a 14)

abbrev fOf (s t : AV) : AV := .agg [a 20, s, t, a 21, a 22, a 23, a 24, a 25, bo 26, a 27]

abbrev fA : AV := fOf shR slR

abbrev fZ : AV := fOf (.osl 11) (.osl 13)

abbrev outsF : List (Nat × List AV) := [(0, [.row .i64 400 (.a 11)]), (0, [.row .i64 500 (.a 13)])]

/-- The names of the operands' cells. -/
def c99 : List AV := [.sx .i64 (.a 40), .sx .i64 (.a 41), .sx .i64 (.a 42), .sx .i64 (.a 43), .sx .i64 (.a 44), .sx .i64 (.a 45), .sx .i64 (.a 46), .sx .i64 (.a 47), .sx .i64 (.a 48), .sx .i64 (.a 49), .sx .i64 (.a 50), .sx .i64 (.a 80), .sx .i64 (.a 81), .sx .i64 (.a 82), .sx .i64 (.a 83), .sx .i64 (.a 84), .sx .i64 (.a 85), .sx .i64 (.a 86), .sx .i64 (.a 87), .sx .i64 (.a 88), .sx .i64 (.a 89), .sx .i64 (.a 90), .sx .i64 (.a 120), .sx .i64 (.a 121), .sx .i64 (.a 122), .sx .i64 (.a 123), .sx .i64 (.a 124), .sx .i64 (.a 125), .sx .i64 (.a 126), .sx .i64 (.a 127), .sx .i64 (.a 128), .sx .i64 (.a 129), .sx .i64 (.a 130), .sx .i64 (.a 160), .sx .i64 (.a 161), .sx .i64 (.a 162), .sx .i64 (.a 163), .sx .i64 (.a 164), .sx .i64 (.a 165), .sx .i64 (.a 166), .sx .i64 (.a 167), .sx .i64 (.a 168), .sx .i64 (.a 169), .sx .i64 (.a 170), .sx .i64 (.a 200), .sx .i64 (.a 201), .sx .i64 (.a 202), .sx .i64 (.a 203), .sx .i64 (.a 204), .sx .i64 (.a 205), .sx .i64 (.a 206), .sx .i64 (.a 207), .sx .i64 (.a 208), .sx .i64 (.a 209), .sx .i64 (.a 210), .sx .i64 (.a 240), .sx .i64 (.a 241), .sx .i64 (.a 242), .sx .i64 (.a 243), .sx .i64 (.a 244), .sx .i64 (.a 245), .sx .i64 (.a 246), .sx .i64 (.a 247), .sx .i64 (.a 248), .sx .i64 (.a 249), .sx .i64 (.a 250), .sx .i64 (.a 280), .sx .i64 (.a 281), .sx .i64 (.a 282), .sx .i64 (.a 283), .sx .i64 (.a 284), .sx .i64 (.a 285), .sx .i64 (.a 286), .sx .i64 (.a 287), .sx .i64 (.a 288), .sx .i64 (.a 289), .sx .i64 (.a 290), .sx .i64 (.a 320), .sx .i64 (.a 321), .sx .i64 (.a 322), .sx .i64 (.a 323), .sx .i64 (.a 324), .sx .i64 (.a 325), .sx .i64 (.a 326), .sx .i64 (.a 327), .sx .i64 (.a 328), .sx .i64 (.a 329), .sx .i64 (.a 330), .sx .i64 (.a 360), .sx .i64 (.a 361), .sx .i64 (.a 362), .sx .i64 (.a 363), .sx .i64 (.a 364), .sx .i64 (.a 365), .sx .i64 (.a 366), .sx .i64 (.a 367), .sx .i64 (.a 368), .sx .i64 (.a 369), .sx .i64 (.a 370)]

noncomputable abbrev cl (n : Nat) : List AV := takeL (11 * n) c99

abbrev instB (b n : Nat) : AV := .agg [a 0, .os b 0 n 1 0]

abbrev instE : AV := .agg [a 0, .osl 38]

noncomputable abbrev outsI (n : Nat) : List (Nat × List AV) := [(11, cl n)]

noncomputable abbrev outsN (n : Nat) : List (Nat × List AV) := [(0, [.row .i64 400 (.a 11)]), (0, [.row .i64 500 (.a 13)]), (11, cl n)]

abbrev patE : Pt := .ag [.av (a 0), .av (.osl 38)]

noncomputable abbrev pat (n : Nat) : Pt := .ag [.av (a 0), .sl 11 (cl n)]

/-- What answers may hang on: all names; a form's; an instruction's; both. -/
def dnA : Nat → Bool := fun _ => true

def dnF : Nat → Bool := fun k => (Nat.ble 11 k && Nat.ble k 27) || Nat.ble 400 k

def dn0 : Nat → Bool := fun k => (Nat.ble 11 k && Nat.ble k 27) || (Nat.ble 400 k && Nat.ble k 599)

def dnM : Nat → Bool := fun k => dn0 k || (Nat.ble 620 k && Nat.ble k 623)

def dnP : Nat → Bool := fun k => dn0 k || Nat.beq k 603 || Nat.beq k 607

def dnO (r : Nat) : Bool := Nat.beq r 0 || Nat.beq r 11 || Nat.beq r 12 || Nat.beq r 31

def dnI : Nat → Bool := fun k => (Nat.ble 2 k && Nat.ble k 7) || Nat.beq k 38 || (Nat.ble 40 k && Nat.ble k 399 && dnO ((k - 40) % 40))

def dnX : Nat → Bool := fun k => Nat.beq k 0 || Nat.beq k 28 || dnF k || dnI k || (Nat.ble 40 k && Nat.ble k 399 && (Nat.beq ((k - 40) % 40) 33 || Nat.beq ((k - 40) % 40) 34))

theorem getD_c (Y : List Int) (k : Nat) : (Y.map SX.c).getD k (.c 0) = .c (Y.getD k 0) := by
  simp only [List.getD_eq_getElem?_getD, List.getElem?_map]
  cases Y[k]? <;> rfl

/-- What an answer obeys. -/
def RofP (phi : List SX → SB) : (Nat → Int) → List Int → Prop := fun val Y => (phi (Y.map SX.c)).eval val = true

theorem phi_tt {val : Nat → Int} {Y : List SX} (_h : ((fun _ => SB.tt) Y).eval val = true) : RofP (fun _ => .tt) val (Y.map (SX.eval val)) := rfl

theorem wfF : wfVs (· < outsF.length) [fA] := by simp [wfVs, wfV]

theorem wfS : wfVs (· < outsF.length) [slR] := by simp [wfVs, wfV]

theorem wfFc (v : Int) : wfVs (· < outsF.length) [fA, ci v] := by simp [wfVs, wfV]

theorem wf1 {l : List (FuncId × List AV × List Sh)} {x : FuncId × List AV × List Sh} {n : Nat} (hl : l = [x]) (h : wfVs (· < n) x.2.1) : ∀ y ∈ l, wfVs (· < n) y.2.1 := by
  subst hl
  intro y hy
  obtain rfl := List.mem_singleton.1 hy
  exact h

/-- What a claim's ways lean on. -/
structure St (outs : List (Nat × List AV)) (l : List (FuncId × List AV × List Sh)) (T : Tb) (phi : List SX → SB) : Prop where
  pl : outs.all plainO = true
  wf : ∀ x ∈ l, wfVs (· < outs.length) x.2.1
  tb : tbB Try.prog T = true
  ph : ∀ {val : Nat → Int} {Y : List SX}, (phi Y).eval val = true → RofP phi val (Y.map (SX.eval val))

theorem lcG {dn : Nat → Bool} {outs : List (Nat × List AV)} {capF : List Fact} {l : List (FuncId × List AV × List Sh)} {m : Nat} {phi : List SX → SB} {T : Tb} (st : St outs l T phi) {val : Nat → Int} {F : List Fact} (h : Holds val F) (Y : List SX)
    (hc : bAnd (F.all (onF dn)) (bAnd (Y.all (onA dn)) (bAnd (Nat.beq Y.length m) (isTrue (decF F (phi Y))))) = true)
    (hg : ∀ (v : Nat → Int) (hG : Holds v (F ++ capF)) (sla : Nat → Option Addr × Nat), @givesO (symsOf v _ hG sla) Try.prog (orElse (@sc (symsOf v _ hG sla)) (@orcT (symsOf v _ hG sla) T)) 1000 outs Y l = true) : Cl Try.prog dn outs capF l m (RofP phi) T val :=
  leafCl (dn := dn) (outs := outs) (capF := capF) (l := l) (T := T) @sc @scO phi mixK st.pl st.wf st.tb h Y st.ph hc hg

end Go.Proofs.Ytlggmhchgicjkaa.Tab
