/-
  All ways.
-/
import Derived.Test.YtlggmhchgicjkaaFitD0
import Derived.Test.YtlggmhchgicjkaaFitD1
import Derived.Test.YtlggmhchgicjkaaFitD2
import Derived.Test.YtlggmhchgicjkaaFitD3
namespace Go.Proofs.Ytlggmhchgicjkaa.Tab
open Go.Sim
set_option maxRecDepth 100000
set_option linter.unusedSimpArgs false
set_option maxHeartbeats 4000000


theorem fitDDone : True := trivial

end Go.Proofs.Ytlggmhchgicjkaa.Tab
