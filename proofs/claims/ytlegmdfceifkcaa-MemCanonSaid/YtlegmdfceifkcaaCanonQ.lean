/-
  All ways.
-/
import Derived.Test.YtlegmdfceifkcaaCanonQ0
import Derived.Test.YtlegmdfceifkcaaCanonQ1
namespace Go.Proofs.Ytlegmdfceifkcaa.Tab
open Go.Sim
set_option maxRecDepth 100000


theorem canonQDone : True := trivial

end Go.Proofs.Ytlegmdfceifkcaa.Tab
