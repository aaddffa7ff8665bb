/-
  'OperandCanon', by all ways through it.
-/
import Derived.Test.YtclhjdddakmafaaArgJH
namespace Go.Proofs.Ytclhjdddakmafaa.Tab
open Go.Sim
set_option maxRecDepth 100000

noncomputable def scK [Syms] : Caller := orElse (known 5 yes []) sc

theorem scKO [Syms] : CallerOK Try.prog scK := orElse_sound knownOK scO

abbrev CanonQ (val : Nat → Int) : Prop := Ret Try.prog 7 [argV val 0, argV val 11] (.bool true)

theorem canonLeaf {val : Nat → Int} {F : List Fact} (h : Holds val F) (hg : saysTrue (@run (symsOf val F h sla0) Try.prog (@scK (symsOf val F h sla0)) 1000 7 [nmA 0, nmA 11]) = true) : CanonQ val :=
  leafT (orc := @scK) (args := [nmA 0, nmA 11]) h scKO mix (by kernel_rfl) hg


end Go.Proofs.Ytclhjdddakmafaa.Tab
