/-
  All ways.
-/
import Derived.Test.YtndiilfjeconbaaCanD0
import Derived.Test.YtndiilfjeconbaaCanD1
import Derived.Test.YtndiilfjeconbaaCanD2
import Derived.Test.YtndiilfjeconbaaCanD3
namespace Go.Proofs.Ytndiilfjeconbaa.Tab
open Go.Sim
set_option maxRecDepth 100000
set_option linter.unusedSimpArgs false
set_option maxHeartbeats 4000000


theorem canDDone : True := trivial

end Go.Proofs.Ytndiilfjeconbaa.Tab
