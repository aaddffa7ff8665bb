/-
  The two tables are the same, looked at again.
-/
import Derived.Test.YtjkegmlfloomlaaSseRowsA
namespace Go.Proofs.Ytjkegmlfloomlaa.Tab
open Go.Sim
set_option maxRecDepth 100000

theorem same2OK [Syms] : CallerOK Try.prog (exactO 10 (preN 8016) yes 16032 true) := exact_sound (fuel := 1000) orcsOK mix (by kernel_rfl)

end Go.Proofs.Ytjkegmlfloomlaa.Tab
