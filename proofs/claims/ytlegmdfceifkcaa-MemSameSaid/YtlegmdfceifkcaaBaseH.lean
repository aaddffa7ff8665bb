/-
  The numbers of a place's sizes and scales.
-/
import Derived.Test.YtlegmdfceifkcaaSimB
import Derived.Test.YtlegmdfceifkcaaScaled
namespace Go.Proofs.Ytlegmdfceifkcaa.Tab
open Go.Sim
set_option maxRecDepth 100000

theorem mix : Try.prog.follows .mixedOrders = true := by kernel_rfl

abbrev sizes : List Int := [0, 1, 2, 4, 8, 16, 32]

abbrev scales : List Int := [1, 2, 4, 8]

abbrev sla0 : Nat → Option Addr × Nat := fun _ => (none, 0)

end Go.Proofs.Ytlegmdfceifkcaa.Tab
