/-
  All ways.
-/
import Derived.Test.YtndiilfjeconbaaInsC0
import Derived.Test.YtndiilfjeconbaaInsC1
import Derived.Test.YtndiilfjeconbaaInsC2
import Derived.Test.YtndiilfjeconbaaInsC3
import Derived.Test.YtndiilfjeconbaaInsC4
import Derived.Test.YtndiilfjeconbaaInsC5
namespace Go.Proofs.Ytndiilfjeconbaa.Tab
open Go.Sim
set_option maxRecDepth 100000
set_option linter.unusedSimpArgs false
set_option maxHeartbeats 4000000


theorem insCDone : True := trivial

end Go.Proofs.Ytndiilfjeconbaa.Tab
