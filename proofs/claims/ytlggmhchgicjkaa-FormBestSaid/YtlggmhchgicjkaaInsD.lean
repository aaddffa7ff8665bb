/-
  All ways.
-/
import Derived.Test.YtlggmhchgicjkaaInsD0
import Derived.Test.YtlggmhchgicjkaaInsD1
import Derived.Test.YtlggmhchgicjkaaInsD2
import Derived.Test.YtlggmhchgicjkaaInsD3
import Derived.Test.YtlggmhchgicjkaaInsD4
namespace Go.Proofs.Ytlggmhchgicjkaa.Tab
open Go.Sim
set_option maxRecDepth 100000
set_option linter.unusedSimpArgs false
set_option maxHeartbeats 4000000


theorem insDDone : True := trivial

end Go.Proofs.Ytlggmhchgicjkaa.Tab
