/-
  What mem.Canon, mem.Check and the document's Canon, Check give of any place: the same, by all ways through them.
-/
import Derived.Test.YtlegmdfceifkcaaSim
import Derived.Test.YtlegmdfceifkcaaScaled
namespace Go.Proofs.Ytlegmdfceifkcaa.Tab
open Go.Sim
set_option maxRecDepth 100000

theorem mix : Try.prog.follows .mixedOrders = true := by kernel_rfl

noncomputable def sc [Syms] : Caller := pureO 25 (inRes [1, 2, 4, 8])

theorem scO [Syms] : CallerOK Try.prog sc := inO_sound (by kernel_rfl) fun n w => by
  have h := scaled_any n w
  simpa [Bool.or_assoc] using h

def specs : List (FuncId × List Sh) := [(8, [.g 0 7, .i 7]), (9, [.g 0 7, .i 7]), (10, [.i 7]), (11, [.i 7])]

/-- A place, out of numbers. -/
abbrev memA : List AV := [.agg [.sx .i64 (.a 0), .sx .i64 (.a 1), .sx .i64 (.a 2), .sx .i64 (.a 3), .sx .i64 (.a 4), .sx .i64 (.a 5), .sx .i64 (.a 6)]]

abbrev MemJ (val : Nat → Int) : Prop :=
  Joint Try.prog specs 8 [.agg #[.int .i64 (val 0), .int .i64 (val 1), .int .i64 (val 2), .int .i64 (val 3), .int .i64 (val 4), .int .i64 (val 5), .int .i64 (val 6)]]

theorem leaf {val : Nat → Int} {F : List Fact} (h : Holds val F) (Y : List SX) (hY : Y.length = 8) (hg : @givesAll (symsOf val F h fun _ => (none, 0)) Try.prog (@sc (symsOf val F h fun _ => (none, 0))) 1000 memA Y specs = true) : MemJ val :=
  leafJ (orc := @sc) (args := memA) h scO mix (by kernel_rfl) Y hY hg


end Go.Proofs.Ytlegmdfceifkcaa.Tab
