/-
  The two tables are the same, looked at the first time.
-/
import Derived.Test.YtmhgboeoiblmhaaRef
import Derived.Test.YtmhgboeoiblmhaaSimE
namespace Go.Proofs.Ytmhgboeoiblmhaa.Tab
open Go.Sim
set_option maxRecDepth 100000

/-- Both tables told, from a number on. -/
noncomputable def preN (n : Nat) : Option (List AV × AS) :=
  match orcs 9 [] ⟨n, .nil⟩ with
  | some (a, S) => match orcs 11 [] S with
    | some (b, S) => some ([a, b], S)
    | none => none
  | none => none

noncomputable def preO : Option (List AV × AS) :=
  match preN 0 with
  | some ([a, _], S) => some ([a], ⟨10874, S.hp⟩)
  | _ => none

theorem same1OK [Syms] : CallerOK Try.prog (exactO 10 (preN 0) yes 10874 true) := exact_sound (fuel := 1000) orcsOK mix (by kernel_rfl)

end Go.Proofs.Ytmhgboeoiblmhaa.Tab
