/-
  All ways.
-/
import Derived.Test.YtndiilfjeconbaaSamD0
import Derived.Test.YtndiilfjeconbaaSamD1
import Derived.Test.YtndiilfjeconbaaSamD2
import Derived.Test.YtndiilfjeconbaaSamD3
namespace Go.Proofs.Ytndiilfjeconbaa.Tab
open Go.Sim
set_option maxRecDepth 100000
set_option linter.unusedSimpArgs false
set_option maxHeartbeats 4000000


theorem samDDone : True := trivial

end Go.Proofs.Ytndiilfjeconbaa.Tab
