/-
  All ways.
-/
import Derived.Test.YtlegmdfceifkcaaMemQ0
namespace Go.Proofs.Ytlegmdfceifkcaa.Tab
open Go.Sim
set_option maxRecDepth 100000


theorem memQDone : True := trivial

end Go.Proofs.Ytlegmdfceifkcaa.Tab
