/-
  What operand.Canon, Check, Size and the document's give of any operand: the same, by all ways through them.
-/
import Derived.Test.YtclhjdddakmafaaSimB
import Derived.Test.YtclhjdddakmafaaScaled
namespace Go.Proofs.Ytclhjdddakmafaa.Tab
open Go.Sim
set_option maxRecDepth 100000

theorem mix : Try.prog.follows .mixedOrders = true := by kernel_rfl

noncomputable def sc [Syms] : Caller := pureO 32 (inRes [1, 2, 4, 8])

theorem scO [Syms] : CallerOK Try.prog sc := inO_sound (by kernel_rfl) fun n w => by
  have h := scaled_any n w
  simpa [Bool.or_assoc] using h

theorem awakeOK [Syms] : CallerOK Try.prog (known 10 yes []) := known_of_run (ids := []) (fuel := 1000) (orc := sc) scO mix (by kernel_rfl) (by kernel_rfl)

theorem knownOK [Syms] : CallerOK Try.prog (known 5 yes []) := known_of_run (ids := []) (fuel := 1000) (orc := sc) scO mix (by kernel_rfl) (by kernel_rfl)

def specs : List (FuncId × List Sh) := [(15, [.g 0 11, .i 11]), (16, [.g 0 11, .i 11]), (12, [.i 11]), (17, [.i 11]), (14, [.i 12]), (18, [.i 12])]

/-- Ints that bear names. -/
abbrev nmA (k : Nat) : AV := .agg [.sx .i64 (.a k), .sx .i64 (.a (k + 1)), .sx .i64 (.a (k + 2)), .sx .i64 (.a (k + 3)), .sx .i64 (.a (k + 4)), .sx .i64 (.a (k + 5)), .sx .i64 (.a (k + 6)), .sx .i64 (.a (k + 7)), .sx .i64 (.a (k + 8)), .sx .i64 (.a (k + 9)), .sx .i64 (.a (k + 10))]

abbrev argV (val : Nat → Int) (k : Nat) : Value := .agg #[.int .i64 (val k), .int .i64 (val (k + 1)), .int .i64 (val (k + 2)), .int .i64 (val (k + 3)), .int .i64 (val (k + 4)), .int .i64 (val (k + 5)), .int .i64 (val (k + 6)), .int .i64 (val (k + 7)), .int .i64 (val (k + 8)), .int .i64 (val (k + 9)), .int .i64 (val (k + 10))]

abbrev sla0 : Nat → Option Addr × Nat := fun _ => (none, 0)

abbrev ArgJ (val : Nat → Int) : Prop := Joint Try.prog specs 13 [argV val 0]

theorem leaf {val : Nat → Int} {F : List Fact} (h : Holds val F) (Y : List SX) (hY : Y.length = 13) (hg : @givesAll (symsOf val F h sla0) Try.prog (@sc (symsOf val F h sla0)) 1000 [nmA 0] Y specs = true) : ArgJ val :=
  leafJ (orc := @sc) (args := [nmA 0]) h scO mix (by kernel_rfl) Y hY hg


end Go.Proofs.Ytclhjdddakmafaa.Tab
