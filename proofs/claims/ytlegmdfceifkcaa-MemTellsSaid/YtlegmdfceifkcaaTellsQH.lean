/-
  'MemTells', by what Canon and Check give.
-/
import Derived.Test.YtlegmdfceifkcaaSimB
import Derived.Test.YtlegmdfceifkcaaMemJ
namespace Go.Proofs.Ytlegmdfceifkcaa.Tab
open Go.Sim
set_option maxRecDepth 100000

theorem awakeOK [Syms] : CallerOK Try.prog (known 14 yes []) := known_of_run (ids := []) (fuel := 1000) (orc := sc) scO mix (by kernel_rfl) (by kernel_rfl)

/-- Ints that bear names. -/
abbrev nmA (k : Nat) : AV := .agg [.sx .i64 (.a k), .sx .i64 (.a (k + 1)), .sx .i64 (.a (k + 2)), .sx .i64 (.a (k + 3)), .sx .i64 (.a (k + 4)), .sx .i64 (.a (k + 5)), .sx .i64 (.a (k + 6))]

abbrev resA (k : Nat) : AV := .tup [nmA k, .sx .i64 (.a (k + 7))]

def tab : List (FuncId × List AV × AV) :=
  [(8, [nmA 0], resA 14), (9, [nmA 0], resA 14), (10, [nmA 0], .sx .i64 (.a 21)), (11, [nmA 0], .sx .i64 (.a 21)), (8, [nmA 7], resA 22), (9, [nmA 7], resA 22), (10, [nmA 7], .sx .i64 (.a 29)), (11, [nmA 7], .sx .i64 (.a 29))]

abbrev sla0 : Nat → Option Addr × Nat := fun _ => (none, 0)

abbrev memV (val : Nat → Int) (k : Nat) : Value := .agg #[.int .i64 (val k), .int .i64 (val (k + 1)), .int .i64 (val (k + 2)), .int .i64 (val (k + 3)), .int .i64 (val (k + 4)), .int .i64 (val (k + 5)), .int .i64 (val (k + 6))]

abbrev TellsQ (val : Nat → Int) : Prop := TabOK Try.prog val sla0 tab → Ret Try.prog 3 [memV val 0, memV val 7] (.bool true)

theorem tellsLeaf {val : Nat → Int} {F : List Fact} (h : Holds val F) (hg : saysTrue (@run (symsOf val F h sla0) Try.prog (orElse (known 14 yes []) (tabO tab)) 1000 3 [nmA 0, nmA 7]) = true) : TellsQ val :=
  fun ht => leafTab (orc := known 14 yes []) (tab := tab) (args := [nmA 0, nmA 7]) h awakeOK mix (by kernel_rfl) (by kernel_rfl) (by kernel_rfl) ht hg


end Go.Proofs.Ytlegmdfceifkcaa.Tab
