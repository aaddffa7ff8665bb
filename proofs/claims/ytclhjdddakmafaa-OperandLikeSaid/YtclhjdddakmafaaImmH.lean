/-
  Numbers by widths: the claims.
-/
import Derived.Test.YtclhjdddakmafaaSimC
import Derived.Test.YtclhjdddakmafaaScaled
namespace Go.Proofs.Ytclhjdddakmafaa.Tab
open Go.Sim
set_option maxRecDepth 100000

theorem mixI : Try.prog.follows .mixedOrders = true := by kernel_rfl

noncomputable def scI [Syms] : Caller := pureO 32 (inRes [1, 2, 4, 8])

theorem scIO [Syms] : CallerOK Try.prog scI := inO_sound (by kernel_rfl) fun n w => by
  have h := scaled_any n w
  simpa [Bool.or_assoc] using h

theorem awakeI [Syms] : CallerOK Try.prog (known 10 yes []) := known_of_run (ids := []) (fuel := 1000) (orc := scI) scIO mixI (by kernel_rfl) (by kernel_rfl)

abbrev argsI (s : Bool) : List AV := [.sx .i64 (.a 0), .sx .i64 (.a 1), .v (.bool s)]

abbrev argsK : List AV := [.sx .i64 (.a 0), .sx .i64 (.a 1)]

abbrev ImmQ (s : Bool) (val : Nat → Int) : Prop := LawO Try.prog 3 (argsI s) [] (fun _ => (none, 0)) val

abbrev LikeQ (val : Nat → Int) : Prop := LawO Try.prog 4 argsK [] (fun _ => (none, 0)) val

theorem leafI {val : Nat → Int} {F : List Fact} (h : Holds val F) {s : Bool} (hg : saysTrue (@runO (symsOf val F h fun _ => (none, 0)) Try.prog (known 10 yes []) 1000 3 (argsI s) []) = true) : ImmQ s val :=
  leafO (orc := known 10 yes []) h awakeI mixI (plains_wf _ (by cases s <;> kernel_rfl)) rfl hg

theorem leafK {val : Nat → Int} {F : List Fact} (h : Holds val F) (hg : saysTrue (@runO (symsOf val F h fun _ => (none, 0)) Try.prog (known 10 yes []) 1000 4 argsK []) = true) : LikeQ val :=
  leafO (orc := known 10 yes []) h awakeI mixI (plains_wf _ (by kernel_rfl)) rfl hg

end Go.Proofs.Ytclhjdddakmafaa.Tab
