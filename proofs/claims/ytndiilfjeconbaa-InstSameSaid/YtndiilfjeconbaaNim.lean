/-
  All ways.
-/
import Derived.Test.YtndiilfjeconbaaNim0
import Derived.Test.YtndiilfjeconbaaNim1
import Derived.Test.YtndiilfjeconbaaNim2
namespace Go.Proofs.Ytndiilfjeconbaa.Tab
open Go.Sim
set_option maxRecDepth 100000
set_option linter.unusedSimpArgs false
set_option maxHeartbeats 4000000


theorem nimDone : True := trivial

end Go.Proofs.Ytndiilfjeconbaa.Tab
