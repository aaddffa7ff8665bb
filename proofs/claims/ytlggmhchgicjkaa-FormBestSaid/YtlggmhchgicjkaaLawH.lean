/-
  The law by lengths and kinds: claims.
-/
import Derived.Test.YtlggmhchgicjkaaNamH
namespace Go.Proofs.Ytlggmhchgicjkaa.Tab
open Go.Sim
set_option maxRecDepth 100000

/-- The cells of the canon's operands: which names they bear (m: which of them are immediates). -/
def nameX (m i : Nat) : Nat := cond (Nat.beq (i % 11) 0) (40 + 40 * (i / 11)) (cond (Nat.beq (i % 11) 10 && Nat.beq (m / 2 ^ (i / 11) % 2) 1) (40 + 40 * (i / 11) + 37) (40 + 40 * (i / 11) + 20 + i % 11))

abbrev lawFo : FuncId × List AV × AV := (4, [], .v (.bool true))

noncomputable abbrev caE (k : Nat) : FuncId × List AV × AV := (10, [.agg ((List.range 11).map fun j => a (40 + 40 * k + j))], .tup [.agg (a (40 + 40 * k) :: (List.range 10).map fun j => a (40 + 40 * k + 21 + j)), ci 0])

abbrev imE (k : Nat) : FuncId × List AV × AV := (11, [a (40 + 40 * k + 30), a 5, bo 6], .tup [a (40 + 40 * k + 37), ci 0])

noncomputable def lawE (n m : Nat) : List (FuncId × List AV × AV) := (List.range n).flatMap fun k => caE k :: cond (Nat.beq (m / 2 ^ k % 2) 1) [imE k] []

noncomputable def lawP (n m : Nat) : Pt := .ag [.av (a 0), .sl 11 ((List.range (11 * n)).map fun i => a (nameX m i))]

abbrev me8 (p : Pt) : ME := ⟨8, [p], a 7, []⟩

abbrev me9 (p : Pt) : ME := ⟨9, [p], .tup [a 5, bo 6], []⟩

/-- Of an error; of others; without operands; without anything. -/
noncomputable def lawTe (n : Nat) : Tb := ⟨[lawFo], [], outsF, [(7, [fA], a 28)], [me8 (pat n)], [], [], [⟨6, fA, pat n, .v (.bool false)⟩]⟩

noncomputable def lawTt (n m : Nat) (t : Bool) : Tb := ⟨lawFo :: lawE n m, [], outsF, [(7, [fA], a 28)], [me8 (pat n), me9 (pat n)], [], [], [⟨6, fA, pat n, .v (.bool t)⟩, ⟨6, fA, lawP n m, .v (.bool t)⟩]⟩

noncomputable def lawT0 (f : AV) (os : List (Nat × List AV)) (e t : Bool) : Tb := ⟨[lawFo], [], os, [(7, [f], a 28)], me8 patE :: cond e [] [me9 patE], [], [], ⟨6, f, patE, .v (.bool t)⟩ :: cond e [] [⟨6, f, .ag [.av (a 0), .av nilS], .v (.bool t)⟩]⟩

theorem lwG {outs : List (Nat × List AV)} {args : List AV} {T : Tb} {val : Nat → Int} {F : List Fact} (hpl : outs.all plainO = true) (hw : wfVs (· < outs.length) args) (hb : tbB Try.prog T = true) (h : Holds val F)
    (hg : ∀ (v : Nat → Int) (hG : Holds v F) (sla : Nat → Option Addr × Nat), saysTrue (@runO (symsOf v _ hG sla) Try.prog (orElse (@sc (symsOf v _ hG sla)) (@orcT (symsOf v _ hG sla) T)) 1000 3 args outs) = true) : LwCl Try.prog outs 3 args T val :=
  leafLw (outs := outs) (args := args) (T := T) @sc @scO mixK hpl hw hb h hg

theorem lwN {n : Nat} {T : Tb} {val : Nat → Int} {F : List Fact} (hpl : (outsN n).all plainO = true) (hb : tbB Try.prog T = true) (h : Holds val F)
    (hg : ∀ (v : Nat → Int) (hG : Holds v F) (sla : Nat → Option Addr × Nat), saysTrue (@runO (symsOf v _ hG sla) Try.prog (orElse (@sc (symsOf v _ hG sla)) (@orcT (symsOf v _ hG sla) T)) 1000 3 [fA, instB 2 n] (outsN n)) = true) : LwCl Try.prog (outsN n) 3 [fA, instB 2 n] T val :=
  lwG hpl (by simp [wfVs, wfV]) hb h hg

/-- What is known on a way. -/
noncomputable def lawFe (n : Nat) : List Fact := [.ne (.a 7) 0, .ge (.a 11) 0, .le (.a 11) 9, .ge (.a 13) 0, .le (.a 13) 9, .ge (.a 1) n]

noncomputable def lawK (n m : Nat) : List Fact := (List.range n).map fun k => cond (Nat.beq (m / 2 ^ k % 2) 1) (.is (.a (40 + 40 * k)) 3) (.ne (.a (40 + 40 * k)) 3)

noncomputable def lawFt (n m : Nat) (t : Bool) : List Fact := cond t [.is (.a 28) 0, .at (.eq (.a 20) (.a 0)) true, .is (.a 11) n] [] ++ [.is (.a 7) 0, .ge (.a 11) 0, .le (.a 11) 9, .ge (.a 13) 0, .le (.a 13) 9, .ge (.a 1) n] ++ lawK n m

noncomputable def T_big1 : Tb := ⟨[(4, [], .v (.bool true))], [], [], [], [], [], [], []⟩

end Go.Proofs.Ytlggmhchgicjkaa.Tab
