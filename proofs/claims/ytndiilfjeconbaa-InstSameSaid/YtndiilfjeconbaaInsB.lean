/-
  All ways.
-/
import Derived.Test.YtndiilfjeconbaaInsB0
import Derived.Test.YtndiilfjeconbaaInsB1
namespace Go.Proofs.Ytndiilfjeconbaa.Tab
open Go.Sim
set_option maxRecDepth 100000
set_option linter.unusedSimpArgs false
set_option maxHeartbeats 4000000


theorem insBDone : True := trivial

end Go.Proofs.Ytndiilfjeconbaa.Tab
