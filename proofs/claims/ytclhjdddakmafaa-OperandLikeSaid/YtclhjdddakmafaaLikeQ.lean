/-
  All ways.
-/
import Derived.Test.YtclhjdddakmafaaLikeQ0
import Derived.Test.YtclhjdddakmafaaLikeQ1
import Derived.Test.YtclhjdddakmafaaLikeQ2
namespace Go.Proofs.Ytclhjdddakmafaa.Tab
open Go.Sim
set_option maxRecDepth 100000
set_option linter.unusedSimpArgs false
set_option maxHeartbeats 2000000


theorem likeQDone : True := trivial

end Go.Proofs.Ytclhjdddakmafaa.Tab
