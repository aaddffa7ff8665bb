/-
  All ways.
-/
import Derived.Test.YtlegmdfceifkcaaSameQ0
import Derived.Test.YtlegmdfceifkcaaSameQ1
namespace Go.Proofs.Ytlegmdfceifkcaa.Tab
open Go.Sim
set_option maxRecDepth 100000


theorem sameQDone : True := trivial

end Go.Proofs.Ytlegmdfceifkcaa.Tab
