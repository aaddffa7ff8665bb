/-
  What operand.Canon, Check, Size and the document's give of any operand: the same, by all ways through them.
-/
import Derived.Test.YtndiilfjeconbaaSimM
import Derived.Test.YtndiilfjeconbaaKnownH
namespace Go.Proofs.Ytndiilfjeconbaa.Tab
open Go.Sim
set_option maxRecDepth 100000

def specs : List (FuncId × List Sh) := [(32, [.g 0 11, .i 11]), (36, [.g 0 11, .i 11]), (26, [.i 11]), (43, [.i 11]), (29, [.i 12]), (42, [.i 12])]

/-- An operand of names. -/
abbrev nmA : AV := .agg [.sx .i64 (.a 0), .sx .i64 (.a 1), .sx .i64 (.a 2), .sx .i64 (.a 3), .sx .i64 (.a 4), .sx .i64 (.a 5), .sx .i64 (.a 6), .sx .i64 (.a 7), .sx .i64 (.a 8), .sx .i64 (.a 9), .sx .i64 (.a 10)]

abbrev argV (val : Nat → Int) : Value := .agg #[.int .i64 (val 0), .int .i64 (val 1), .int .i64 (val 2), .int .i64 (val 3), .int .i64 (val 4), .int .i64 (val 5), .int .i64 (val 6), .int .i64 (val 7), .int .i64 (val 8), .int .i64 (val 9), .int .i64 (val 10)]

abbrev sl0 : Nat → Option Addr × Nat := fun _ => (none, 0)

/-- Of an operand that may be, the canon is of its kind, and has its number. -/
def PhiA (k n : Int) (Y : List Int) : Prop := Y.getD 11 0 = 0 → Y.getD 0 0 = k ∧ (k = 3 → Y.getD 10 0 = n)

noncomputable abbrev phiA (Y : List SX) : SB := .or (.not (.eq (Y.getD 11 (.c 0)) (.c 0))) (.and (.eq (Y.getD 0 (.c 0)) (.a 0)) (.or (.not (.eq (.a 0) (.c 3))) (.eq (Y.getD 10 (.c 0)) (.a 10))))

theorem phiA_holds {val : Nat → Int} {Y : List SX} (h : (phiA Y).eval val = true) : PhiA (val 0) (val 10) (Y.map (SX.eval val)) := by
  intro h0
  simp only [SB.eval, getD_map_eval, SX.eval, Bool.or_eq_true, Bool.and_eq_true, Bool.not_eq_true', beq_eq_false_iff_ne, ne_eq, beq_iff_eq] at h
  rcases h with h | ⟨h1, h2⟩
  · exact absurd h0 h
  · exact ⟨h1, fun h3 => h2.resolve_left fun h4 => h4 h3⟩

abbrev ArgJ (val : Nat → Int) : Prop := ∃ Y : List Int, Y.length = 13 ∧ PhiA (val 0) (val 10) Y ∧ ∀ x ∈ specs, Ret Try.prog x.1 [argV val] (shV x.2 Y)

theorem leaf {val : Nat → Int} {F : List Fact} (h : Holds val F) (Y : List SX) (hY : Y.length = 13) (hphi : isTrue (decF F (phiA Y)) = true) (hg : @givesAll (symsOf val F h sl0) Try.prog (@sc (symsOf val F h sl0)) 1000 [nmA] Y specs = true) : ArgJ val :=
  letI := symsOf val F h sl0
  ⟨Y.map (SX.eval val), by rw [List.length_map, hY], phiA_holds (decF_sound h _ _ (isTrue_iff hphi)), fun x hx => joint_of (Y := Y) scO mixK (by kernel_rfl) specs hg x hx⟩

theorem lf {val : Nat → Int} {F : List Fact} (h : Holds val F) (Y : List SX) (hg : bAnd (Nat.beq Y.length 13) (bAnd (isTrue (decF F (phiA Y))) (@givesAll (symsOf val F h sl0) Try.prog (@sc (symsOf val F h sl0)) 1000 [nmA] Y specs)) = true) : ArgJ val :=
  leaf h Y (Nat.eq_of_beq_eq_true (bAnd_true hg).1) (bAnd_true (bAnd_true hg).2).1 (bAnd_true (bAnd_true hg).2).2

end Go.Proofs.Ytndiilfjeconbaa.Tab
