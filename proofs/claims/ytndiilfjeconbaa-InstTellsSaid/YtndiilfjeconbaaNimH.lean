/-
  What name.Valid, Imm, operand.Imm and the document's give: claims.
-/
import Derived.Test.YtndiilfjeconbaaSimM
import Derived.Test.YtndiilfjeconbaaKnownH
namespace Go.Proofs.Ytndiilfjeconbaa.Tab
open Go.Sim
set_option maxRecDepth 100000

def nspecs : List (FuncId × List Sh) := [(25, [.b 0]), (41, [.b 0]), (28, [.i 1, .b 2]), (40, [.i 1, .b 2])]

abbrev NameJ (val : Nat → Int) : Prop := ∃ Y : List Int, Y.length = 3 ∧ 0 ≤ Y.getD 1 0 ∧ ∀ x ∈ nspecs, Ret Try.prog x.1 [.int .i64 (val 0)] (shV x.2 Y)

theorem nleaf {val : Nat → Int} {F : List Fact} (h : Holds val F) (Y : List SX) (hY : Y.length = 3) (hphi : isTrue (decF F (.le (.c 0) (Y.getD 1 (.c 0)))) = true) (hg : @givesAll (symsOf val F h fun _ => (none, 0)) Try.prog noOrc 1000 [.sx .i64 (.a 0)] Y nspecs = true) : NameJ val :=
  letI := symsOf val F h fun _ => (none, 0)
  ⟨Y.map (SX.eval val), by rw [List.length_map, hY], by
    have := decF_sound h _ _ (isTrue_iff hphi)
    simp only [SB.eval, getD_map_eval, SX.eval, decide_eq_true_eq] at this
    exact this, fun x hx => joint_of (Y := Y) noOrc_sound mixK (by kernel_rfl) nspecs hg x hx⟩

def ispecs : List (FuncId × List Sh) := [(37, [.i 1, .i 0]), (27, [.i 1, .i 0])]

abbrev ImmJ (s : Bool) (val : Nat → Int) : Prop := ∃ Y : List Int, Y.length = 2 ∧ ∀ x ∈ ispecs, Ret Try.prog x.1 [.int .i64 (val 0), .int .i64 (val 1), .bool s] (shV x.2 Y)

theorem nlf {val : Nat → Int} {F : List Fact} (h : Holds val F) (Y : List SX) (hg : bAnd (Nat.beq Y.length 3) (bAnd (isTrue (decF F (.le (.c 0) (Y.getD 1 (.c 0))))) (@givesAll (symsOf val F h fun _ => (none, 0)) Try.prog noOrc 1000 [.sx .i64 (.a 0)] Y nspecs)) = true) : NameJ val :=
  nleaf h Y (Nat.eq_of_beq_eq_true (bAnd_true hg).1) (bAnd_true (bAnd_true hg).2).1 (bAnd_true (bAnd_true hg).2).2

theorem ileaf {val : Nat → Int} {F : List Fact} {s : Bool} (h : Holds val F) (Y : List SX) (hY : Y.length = 2) (hp : plains [.sx .i64 (.a 0), .sx .i64 (.a 1), .v (.bool s)] = true) (hg : @givesAll (symsOf val F h fun _ => (none, 0)) Try.prog noOrc 1000 [.sx .i64 (.a 0), .sx .i64 (.a 1), .v (.bool s)] Y ispecs = true) : ImmJ s val :=
  letI := symsOf val F h fun _ => (none, 0)
  ⟨Y.map (SX.eval val), by rw [List.length_map, hY], fun x hx => joint_of (Y := Y) noOrc_sound mixK hp ispecs hg x hx⟩

end Go.Proofs.Ytndiilfjeconbaa.Tab
