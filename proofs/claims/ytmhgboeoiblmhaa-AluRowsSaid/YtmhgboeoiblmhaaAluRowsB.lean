/-
  The first table is written over.
-/
import Derived.Test.YtmhgboeoiblmhaaAluRowsA
namespace Go.Proofs.Ytmhgboeoiblmhaa.Tab
open Go.Sim
set_option maxRecDepth 100000

theorem overOK [Syms] : CallerOK Try.prog (exactO 12 preO (.tup []) 10874 false) := exact_sound (fuel := 1000) orcsOK mix (by kernel_rfl)

end Go.Proofs.Ytmhgboeoiblmhaa.Tab
