/-
  The two tables are the same, looked at again.
-/
import Derived.Test.YtmhgboeoiblmhaaAluRowsA
namespace Go.Proofs.Ytmhgboeoiblmhaa.Tab
open Go.Sim
set_option maxRecDepth 100000

theorem same2OK [Syms] : CallerOK Try.prog (exactO 10 (preN 10874) yes 21748 true) := exact_sound (fuel := 1000) orcsOK mix (by kernel_rfl)

end Go.Proofs.Ytmhgboeoiblmhaa.Tab
