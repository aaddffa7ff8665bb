/-
  All ways.
-/
import Derived.Test.YtlegmdfceifkcaaAddrQ0
import Derived.Test.YtlegmdfceifkcaaAddrQ1
import Derived.Test.YtlegmdfceifkcaaAddrQ2
namespace Go.Proofs.Ytlegmdfceifkcaa.Tab
open Go.Sim
set_option maxRecDepth 100000


theorem addrQDone : True := trivial

end Go.Proofs.Ytlegmdfceifkcaa.Tab
