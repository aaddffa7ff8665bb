/-
  The first table is written over.
-/
import Derived.Test.YtjkegmlfloomlaaSseRowsA
namespace Go.Proofs.Ytjkegmlfloomlaa.Tab
open Go.Sim
set_option maxRecDepth 100000

theorem overOK [Syms] : CallerOK Try.prog (exactO 12 preO (.tup []) 8016 false) := exact_sound (fuel := 1000) orcsOK mix (by kernel_rfl)

end Go.Proofs.Ytjkegmlfloomlaa.Tab
