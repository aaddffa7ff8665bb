/-
  All ways.
-/
import Derived.Test.YtlggmhchgicjkaaShpD0
import Derived.Test.YtlggmhchgicjkaaShpD1
import Derived.Test.YtlggmhchgicjkaaShpD2
import Derived.Test.YtlggmhchgicjkaaShpD3
namespace Go.Proofs.Ytlggmhchgicjkaa.Tab
open Go.Sim
set_option maxRecDepth 100000
set_option linter.unusedSimpArgs false
set_option maxHeartbeats 4000000


theorem shpDDone : True := trivial

end Go.Proofs.Ytlggmhchgicjkaa.Tab
