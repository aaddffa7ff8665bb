/-
  'OperandTells', by what Canon, Check and Size give.
-/
import Derived.Test.YtclhjdddakmafaaArgJ
namespace Go.Proofs.Ytclhjdddakmafaa.Tab
open Go.Sim
set_option maxRecDepth 100000

abbrev resA (k : Nat) : AV := .tup [nmA k, .sx .i64 (.a (k + 11))]

def tab : List (FuncId × List AV × AV) :=
  [(15, [nmA 0], resA 22), (16, [nmA 0], resA 22), (12, [nmA 0], .sx .i64 (.a 33)), (17, [nmA 0], .sx .i64 (.a 33)), (14, [nmA 0], .sx .i64 (.a 34)), (18, [nmA 0], .sx .i64 (.a 34)),
   (15, [nmA 11], resA 35), (16, [nmA 11], resA 35), (12, [nmA 11], .sx .i64 (.a 46)), (17, [nmA 11], .sx .i64 (.a 46)), (14, [nmA 11], .sx .i64 (.a 47)), (18, [nmA 11], .sx .i64 (.a 47))]

abbrev TellsQ (val : Nat → Int) : Prop := TabOK Try.prog val sla0 tab → Ret Try.prog 6 [argV val 0, argV val 11] (.bool true)

theorem tellsLeaf {val : Nat → Int} {F : List Fact} (h : Holds val F) (hg : saysTrue (@run (symsOf val F h sla0) Try.prog (orElse (known 10 yes []) (tabO tab)) 1000 6 [nmA 0, nmA 11]) = true) : TellsQ val :=
  fun ht => leafTab (orc := known 10 yes []) (tab := tab) (args := [nmA 0, nmA 11]) h awakeOK mix (by kernel_rfl) (by kernel_rfl) (by kernel_rfl) ht hg


end Go.Proofs.Ytclhjdddakmafaa.Tab
