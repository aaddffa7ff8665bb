/-
  All ways.
-/
import Derived.Test.YtclhjdddakmafaaImmQ0
import Derived.Test.YtclhjdddakmafaaImmQ1
namespace Go.Proofs.Ytclhjdddakmafaa.Tab
open Go.Sim
set_option maxRecDepth 100000
set_option linter.unusedSimpArgs false


theorem immQDone : True := trivial

end Go.Proofs.Ytclhjdddakmafaa.Tab
