/-
  No cell of these rows narrows 'for every input' (looked for: loops, veiled, ifaces, maps, wideKeys, modest, calm, conditions, laid).
  DERIVED. THE GIVEN ROWS OF THIS SEAT. 6 by the template 'for every input the law returns true; each argument reads behind the call as it read before'; 0 by the template 'total and deterministic' (their statements: YtgaecdjfgffonaaTotals.lean).
  GIVEN WITH THE SEED: the statements are not yours to turn. If you find one false, say at which input.
  Laid BY PROGRAM, IN A SANDBOX (cutbox-rows.mjs): the forced cells as the released guide's own fill.sh prints them over the translation dd3e048273dc0298… (all of the seat's roots in one cut). By AI agents, Wed Nov 11 2026. No macro, syntax, notation, axiom, sorry.
-/
import Derived.Test.YtgaecdjfgffonaaChecked
import GoSem.Claim
import GoSem.ClaimJoined
import GoSem.ClaimMapViews
import Derived.JoinedTies
import Derived.KernelRfl
namespace Go.Proofs.Ytgaecdjfgffonaa
/- THE CELL 'sum', in the pinned program and in every row, IS THE sha256 OF THE DUMP (.gsa) THAT YtgaecdjfgffonaaProg.lean LOADS. Nothing in Lean hashes anything: it is a label: what it is worth is what the hold of that sum in a sandbox is worth. -/
noncomputable def Try.pinned : Pinned := { name := "ytgaecdjfgffonaa", sum := "dd3e048273dc0298d9ae00069a599eb6ef226cd265dc64996d9fe6fe7c6a8135", checked := Try.checked }
namespace Rows
def none {H : Type} : Left H := { results := [], args := [] }

/-- 'linotypelaw15.FlowRows': WHATEVER THE INPUT: true; the input reads as it did. -/
def flowRowsSpec : ChangeSpec := { name := "flowRows", fn := fun _ => fun
  | [] => { results := [.lit (.bool true)], args := [] }
  | _ => none }
def flowRowsRow : OpenClaim := { program := "ytgaecdjfgffonaa", sum := "dd3e048273dc0298d9ae00069a599eb6ef226cd265dc64996d9fe6fe7c6a8135", func := "linotype/linotypelaw15.FlowRows", spec := "flowRows", unfollowed := true, recurses := true, apart := false }
def FlowRowsSaid : Prop := flowRowsRow.holds Try.pinned (OpenSpec.ofChange flowRowsSpec)

/-- ITS FALSE NEIGHBOUR: 'it returns false'. Refute it at one input. -/
def flowRowsWrong : ChangeSpec := { name := "flowRows", fn := fun _ => fun
  | [] => { results := [.lit (.bool false)], args := [] }
  | _ => none }
def FlowRowsWrongFalsely : Prop := flowRowsRow.holds Try.pinned (OpenSpec.ofChange flowRowsWrong)

/-- 'linotypelaw15.FlowOf': WHATEVER THE INPUT: true; the input reads as it did. -/
def flowOfSpec : ChangeSpec := { name := "flowOf", fn := fun _ => fun
  | [d] => { results := [.lit (.bool true)], args := [d] }
  | _ => none }
def flowOfRow : OpenClaim := { program := "ytgaecdjfgffonaa", sum := "dd3e048273dc0298d9ae00069a599eb6ef226cd265dc64996d9fe6fe7c6a8135", func := "linotype/linotypelaw15.FlowOf", spec := "flowOf", unfollowed := true, recurses := true, apart := false }
def FlowOfSaid : Prop := flowOfRow.holds Try.pinned (OpenSpec.ofChange flowOfSpec)

/-- ITS FALSE NEIGHBOUR: 'it returns false'. Refute it at one input. -/
def flowOfWrong : ChangeSpec := { name := "flowOf", fn := fun _ => fun
  | [d] => { results := [.lit (.bool false)], args := [d] }
  | _ => none }
def FlowOfWrongFalsely : Prop := flowOfRow.holds Try.pinned (OpenSpec.ofChange flowOfWrong)

/-- 'linotypelaw15.FlowApart': WHATEVER THE INPUT: true; the input reads as it did. -/
def flowApartSpec : ChangeSpec := { name := "flowApart", fn := fun _ => fun
  | [d1, d2] => { results := [.lit (.bool true)], args := [d1, d2] }
  | _ => none }
def flowApartRow : OpenClaim := { program := "ytgaecdjfgffonaa", sum := "dd3e048273dc0298d9ae00069a599eb6ef226cd265dc64996d9fe6fe7c6a8135", func := "linotype/linotypelaw15.FlowApart", spec := "flowApart", unfollowed := true, recurses := true, apart := false }
def FlowApartSaid : Prop := flowApartRow.holds Try.pinned (OpenSpec.ofChange flowApartSpec)

/-- ITS FALSE NEIGHBOUR: 'it returns false'. Refute it at one input. -/
def flowApartWrong : ChangeSpec := { name := "flowApart", fn := fun _ => fun
  | [d1, d2] => { results := [.lit (.bool false)], args := [d1, d2] }
  | _ => none }
def FlowApartWrongFalsely : Prop := flowApartRow.holds Try.pinned (OpenSpec.ofChange flowApartWrong)

/-- 'linotypelaw15.FlowKnown': WHATEVER THE INPUT: true; the input reads as it did. -/
def flowKnownSpec : ChangeSpec := { name := "flowKnown", fn := fun _ => fun
  | [] => { results := [.lit (.bool true)], args := [] }
  | _ => none }
def flowKnownRow : OpenClaim := { program := "ytgaecdjfgffonaa", sum := "dd3e048273dc0298d9ae00069a599eb6ef226cd265dc64996d9fe6fe7c6a8135", func := "linotype/linotypelaw15.FlowKnown", spec := "flowKnown", unfollowed := true, recurses := true, apart := false }
def FlowKnownSaid : Prop := flowKnownRow.holds Try.pinned (OpenSpec.ofChange flowKnownSpec)

/-- ITS FALSE NEIGHBOUR: 'it returns false'. Refute it at one input. -/
def flowKnownWrong : ChangeSpec := { name := "flowKnown", fn := fun _ => fun
  | [] => { results := [.lit (.bool false)], args := [] }
  | _ => none }
def FlowKnownWrongFalsely : Prop := flowKnownRow.holds Try.pinned (OpenSpec.ofChange flowKnownWrong)

/-- 'linotypelaw15.FlowConds': WHATEVER THE INPUT: true; the input reads as it did. -/
def flowCondsSpec : ChangeSpec := { name := "flowConds", fn := fun _ => fun
  | [d] => { results := [.lit (.bool true)], args := [d] }
  | _ => none }
def flowCondsRow : OpenClaim := { program := "ytgaecdjfgffonaa", sum := "dd3e048273dc0298d9ae00069a599eb6ef226cd265dc64996d9fe6fe7c6a8135", func := "linotype/linotypelaw15.FlowConds", spec := "flowConds", unfollowed := true, recurses := true, apart := false }
def FlowCondsSaid : Prop := flowCondsRow.holds Try.pinned (OpenSpec.ofChange flowCondsSpec)

/-- ITS FALSE NEIGHBOUR: 'it returns false'. Refute it at one input. -/
def flowCondsWrong : ChangeSpec := { name := "flowConds", fn := fun _ => fun
  | [d] => { results := [.lit (.bool false)], args := [d] }
  | _ => none }
def FlowCondsWrongFalsely : Prop := flowCondsRow.holds Try.pinned (OpenSpec.ofChange flowCondsWrong)

/-- 'linotypelaw15.FlowMay': WHATEVER THE INPUT: true; the input reads as it did. -/
def flowMaySpec : ChangeSpec := { name := "flowMay", fn := fun _ => fun
  | [d] => { results := [.lit (.bool true)], args := [d] }
  | _ => none }
def flowMayRow : OpenClaim := { program := "ytgaecdjfgffonaa", sum := "dd3e048273dc0298d9ae00069a599eb6ef226cd265dc64996d9fe6fe7c6a8135", func := "linotype/linotypelaw15.FlowMay", spec := "flowMay", unfollowed := true, recurses := true, apart := false }
def FlowMaySaid : Prop := flowMayRow.holds Try.pinned (OpenSpec.ofChange flowMaySpec)

/-- ITS FALSE NEIGHBOUR: 'it returns false'. Refute it at one input. -/
def flowMayWrong : ChangeSpec := { name := "flowMay", fn := fun _ => fun
  | [d] => { results := [.lit (.bool false)], args := [d] }
  | _ => none }
def FlowMayWrongFalsely : Prop := flowMayRow.holds Try.pinned (OpenSpec.ofChange flowMayWrong)

/- THE SECOND FORM. 'bulk': how many values and letters a reading holds, each counted each time it is reached (what is shared counts as often as it is met; a slice's spare places count too). A statement '..UptoSaid' is the law's where the arguments, and the package variables that the reading takes, are together of bulk at most 1048576: NARROWER than '..Said'. Prove '..Said' where nothing that the law and all that it calls make is longer than what came in: it says more and counts as full. Else prove '..UptoSaid'. A law counts once. -/
mutual
def uptoBulk {H : Type} : DataW H → Nat
  | .lit (.string bytes) => bytes.length + 1
  | .lit _ => 1
  | .nil => 1
  | .ptr d => uptoBulk d + 1
  | .slice elems spare => uptoBulkAll elems + uptoBulkAll spare + 1
  | .agg parts => uptoBulkAll parts + 1
  | .iface _ d => uptoBulk d + 1
  | .map entries => uptoBulkEntries entries + 1
  | .held _ => 1
def uptoBulkAll {H : Type} : List (DataW H) → Nat
  | [] => 0
  | d :: r => uptoBulk d + uptoBulkAll r
def uptoBulkEntries {H : Type} : List (Lit × DataW H) → Nat
  | [] => 0
  | x :: r => uptoBulkEntry x + uptoBulkEntries r
def uptoBulkEntry {H : Type} : Lit × DataW H → Nat
  | (.string bytes, d) => bytes.length + uptoBulk d + 1
  | (_, d) => uptoBulk d + 1
 end
def uptoSmall : (H : Type) → List (DataW H) → Bool := fun _ ds => decide (uptoBulkAll ds ≤ 1048576)
def OpenSpec.upto (s : _root_.Go.ChangeSpec) : _root_.Go.OpenSpec := { _root_.Go.OpenSpec.ofChange s with cond := some uptoSmall }

/-- 'linotypelaw15.FlowRows', WHERE WHAT IT READS IS OF BULK AT MOST 1048576: true; the input reads as it did. -/
def flowRowsUptoRow : OpenClaim := { program := "ytgaecdjfgffonaa", sum := "dd3e048273dc0298d9ae00069a599eb6ef226cd265dc64996d9fe6fe7c6a8135", func := "linotype/linotypelaw15.FlowRows", spec := "flowRows", unfollowed := true, recurses := true, apart := false, narrowed := true }
def FlowRowsUptoSaid : Prop := flowRowsUptoRow.holds Try.pinned (OpenSpec.upto flowRowsSpec)

/-- 'linotypelaw15.FlowOf', WHERE WHAT IT READS IS OF BULK AT MOST 1048576: true; the input reads as it did. -/
def flowOfUptoRow : OpenClaim := { program := "ytgaecdjfgffonaa", sum := "dd3e048273dc0298d9ae00069a599eb6ef226cd265dc64996d9fe6fe7c6a8135", func := "linotype/linotypelaw15.FlowOf", spec := "flowOf", unfollowed := true, recurses := true, apart := false, narrowed := true }
def FlowOfUptoSaid : Prop := flowOfUptoRow.holds Try.pinned (OpenSpec.upto flowOfSpec)

/-- 'linotypelaw15.FlowApart', WHERE WHAT IT READS IS OF BULK AT MOST 1048576: true; the input reads as it did. -/
def flowApartUptoRow : OpenClaim := { program := "ytgaecdjfgffonaa", sum := "dd3e048273dc0298d9ae00069a599eb6ef226cd265dc64996d9fe6fe7c6a8135", func := "linotype/linotypelaw15.FlowApart", spec := "flowApart", unfollowed := true, recurses := true, apart := false, narrowed := true }
def FlowApartUptoSaid : Prop := flowApartUptoRow.holds Try.pinned (OpenSpec.upto flowApartSpec)

/-- 'linotypelaw15.FlowKnown', WHERE WHAT IT READS IS OF BULK AT MOST 1048576: true; the input reads as it did. -/
def flowKnownUptoRow : OpenClaim := { program := "ytgaecdjfgffonaa", sum := "dd3e048273dc0298d9ae00069a599eb6ef226cd265dc64996d9fe6fe7c6a8135", func := "linotype/linotypelaw15.FlowKnown", spec := "flowKnown", unfollowed := true, recurses := true, apart := false, narrowed := true }
def FlowKnownUptoSaid : Prop := flowKnownUptoRow.holds Try.pinned (OpenSpec.upto flowKnownSpec)

/-- 'linotypelaw15.FlowConds', WHERE WHAT IT READS IS OF BULK AT MOST 1048576: true; the input reads as it did. -/
def flowCondsUptoRow : OpenClaim := { program := "ytgaecdjfgffonaa", sum := "dd3e048273dc0298d9ae00069a599eb6ef226cd265dc64996d9fe6fe7c6a8135", func := "linotype/linotypelaw15.FlowConds", spec := "flowConds", unfollowed := true, recurses := true, apart := false, narrowed := true }
def FlowCondsUptoSaid : Prop := flowCondsUptoRow.holds Try.pinned (OpenSpec.upto flowCondsSpec)

/-- 'linotypelaw15.FlowMay', WHERE WHAT IT READS IS OF BULK AT MOST 1048576: true; the input reads as it did. -/
def flowMayUptoRow : OpenClaim := { program := "ytgaecdjfgffonaa", sum := "dd3e048273dc0298d9ae00069a599eb6ef226cd265dc64996d9fe6fe7c6a8135", func := "linotype/linotypelaw15.FlowMay", spec := "flowMay", unfollowed := true, recurses := true, apart := false, narrowed := true }
def FlowMayUptoSaid : Prop := flowMayUptoRow.holds Try.pinned (OpenSpec.upto flowMaySpec)

end Rows
end Go.Proofs.Ytgaecdjfgffonaa
