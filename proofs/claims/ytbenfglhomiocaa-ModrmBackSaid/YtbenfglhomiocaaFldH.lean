/-
  Numbers by their lowest bits, in plain terms; calls that are run.
-/
import Derived.Test.YtbenfglhomiocaaSimC
import Derived.Test.YtbenfglhomiocaaChecked
import Derived.KernelRfl
namespace Go.Proofs.Ytbenfglhomiocaa.Fld
open Go.Sim
set_option maxRecDepth 100000

theorem mix : Try.prog.follows .mixedOrders = true := by kernel_rfl

abbrev sl0 : Nat → Option Addr × Nat := fun _ => (none, 0)

/-- The number of the lowest bits, by its sign. -/
def sgnF (n : Int) (b : Nat) : Int := (n + 2 ^ (b - 1)) % 2 ^ b - 2 ^ (b - 1)

/-- The number of the lowest bits, without. -/
def lowF (n : Int) (b : Nat) : Int := if b = 64 then n else n % 2 ^ b

/-- A number of 64 bits. -/
def In (n : Int) : Prop := -9223372036854775808 ≤ n ∧ n ≤ 9223372036854775807

noncomputable def isV (r : Option (AV × AS)) (v : AV) : Bool :=
  match r with
  | some (u, _) => avEq u v
  | none => false

theorem retV {val : Nat → Int} {F : List Fact} (h : Holds val F) {tab : List (FuncId × List AV × AV)} (ht : TabOK Try.prog val sl0 tab) (hb : tab.all (fun x => bodyOK Try.prog x.1) = true) (hp : tab.all (fun x => plain x.2.2 && plains x.2.1) = true)
    {f : FuncId} {args : List AV} {v : AV} (ha : plains args = true) (hv : plain v = true) (hg : isV (@run (symsOf val F h sl0) Try.prog (tabO tab) 1000 f args) v = true) : Ret Try.prog f (@concs (symsOf val F h sl0) E0 args) (@conc (symsOf val F h sl0) E0 v) := by
  letI := symsOf val F h sl0
  unfold isV at hg
  split at hg
  · rename_i u S hr
    have := avEq_sound _ _ hg
    subst this
    exact ret_of (tabOK_sound h hb hp ht) mix hr ha hv
  · cases hg

theorem tabNil {val : Nat → Int} : TabOK Try.prog val sl0 [] := fun x hx => by cases hx

end Go.Proofs.Ytbenfglhomiocaa.Fld
