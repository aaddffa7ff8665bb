/-
  No cell of these rows narrows 'for every input' (looked for: loops, veiled, ifaces, maps, wideKeys, modest, calm, conditions, laid).
  DERIVED. THE GIVEN ROWS OF THIS SEAT. 5 by the template 'for every input the law returns true; each argument reads behind the call as it read before'; 0 by the template 'total and deterministic' (their statements: YtclhjdddakmafaaTotals.lean).
  GIVEN WITH THE SEED: the statements are not yours to turn. If you find one false, say at which input.
  Laid BY PROGRAM, IN A SANDBOX (cutbox-rows.mjs): the forced cells as the released guide's own fill.sh prints them over the translation 991d2dd4334438a8… (all of the seat's roots in one cut). By AI agents, Wed Nov 11 2026. No macro, syntax, notation, axiom, sorry.
-/
import Derived.Test.YtclhjdddakmafaaChecked
import GoSem.Claim
import GoSem.ClaimJoined
import GoSem.ClaimMapViews
import Derived.JoinedTies
import Derived.KernelRfl
namespace Go.Proofs.Ytclhjdddakmafaa
/- THE CELL 'sum', in the pinned program and in every row, IS THE sha256 OF THE DUMP (.gsa) THAT YtclhjdddakmafaaProg.lean LOADS. Nothing in Lean hashes anything: it is a label: what it is worth is what the hold of that sum in a sandbox is worth. -/
noncomputable def Try.pinned : Pinned := { name := "ytclhjdddakmafaa", sum := "991d2dd4334438a84b25d89506b3786b442a15a8e3d6156ea02da22adc7eb3d4", checked := Try.checked }
namespace Rows
def none {H : Type} : Left H := { results := [], args := [] }

/-- 'linotypelaw06.OperandImm': WHATEVER THE INPUT: true; the input reads as it did. -/
def operandImmSpec : ChangeSpec := { name := "operandImm", fn := fun _ => fun
  | [d1, d2, d3] => { results := [.lit (.bool true)], args := [d1, d2, d3] }
  | _ => none }
def operandImmRow : OpenClaim := { program := "ytclhjdddakmafaa", sum := "991d2dd4334438a84b25d89506b3786b442a15a8e3d6156ea02da22adc7eb3d4", func := "linotype/linotypelaw06.OperandImm", spec := "operandImm", apart := false }
def OperandImmSaid : Prop := operandImmRow.holds Try.pinned (OpenSpec.ofChange operandImmSpec)

/-- ITS FALSE NEIGHBOUR: 'it returns false'. Refute it at one input. -/
def operandImmWrong : ChangeSpec := { name := "operandImm", fn := fun _ => fun
  | [d1, d2, d3] => { results := [.lit (.bool false)], args := [d1, d2, d3] }
  | _ => none }
def OperandImmWrongFalsely : Prop := operandImmRow.holds Try.pinned (OpenSpec.ofChange operandImmWrong)

/-- 'linotypelaw06.OperandLike': WHATEVER THE INPUT: true; the input reads as it did. -/
def operandLikeSpec : ChangeSpec := { name := "operandLike", fn := fun _ => fun
  | [d1, d2] => { results := [.lit (.bool true)], args := [d1, d2] }
  | _ => none }
def operandLikeRow : OpenClaim := { program := "ytclhjdddakmafaa", sum := "991d2dd4334438a84b25d89506b3786b442a15a8e3d6156ea02da22adc7eb3d4", func := "linotype/linotypelaw06.OperandLike", spec := "operandLike", apart := false }
def OperandLikeSaid : Prop := operandLikeRow.holds Try.pinned (OpenSpec.ofChange operandLikeSpec)

/-- ITS FALSE NEIGHBOUR: 'it returns false'. Refute it at one input. -/
def operandLikeWrong : ChangeSpec := { name := "operandLike", fn := fun _ => fun
  | [d1, d2] => { results := [.lit (.bool false)], args := [d1, d2] }
  | _ => none }
def OperandLikeWrongFalsely : Prop := operandLikeRow.holds Try.pinned (OpenSpec.ofChange operandLikeWrong)

/-- 'linotypelaw06.OperandKnown': WHATEVER THE INPUT: true; the input reads as it did. -/
def operandKnownSpec : ChangeSpec := { name := "operandKnown", fn := fun _ => fun
  | [] => { results := [.lit (.bool true)], args := [] }
  | _ => none }
def operandKnownRow : OpenClaim := { program := "ytclhjdddakmafaa", sum := "991d2dd4334438a84b25d89506b3786b442a15a8e3d6156ea02da22adc7eb3d4", func := "linotype/linotypelaw06.OperandKnown", spec := "operandKnown", apart := false }
def OperandKnownSaid : Prop := operandKnownRow.holds Try.pinned (OpenSpec.ofChange operandKnownSpec)

/-- ITS FALSE NEIGHBOUR: 'it returns false'. Refute it at one input. -/
def operandKnownWrong : ChangeSpec := { name := "operandKnown", fn := fun _ => fun
  | [] => { results := [.lit (.bool false)], args := [] }
  | _ => none }
def OperandKnownWrongFalsely : Prop := operandKnownRow.holds Try.pinned (OpenSpec.ofChange operandKnownWrong)

/-- 'linotypelaw06.OperandTells': WHATEVER THE INPUT: true; the input reads as it did. -/
def operandTellsSpec : ChangeSpec := { name := "operandTells", fn := fun _ => fun
  | [d1, d2] => { results := [.lit (.bool true)], args := [d1, d2] }
  | _ => none }
def operandTellsRow : OpenClaim := { program := "ytclhjdddakmafaa", sum := "991d2dd4334438a84b25d89506b3786b442a15a8e3d6156ea02da22adc7eb3d4", func := "linotype/linotypelaw06.OperandTells", spec := "operandTells", apart := false }
def OperandTellsSaid : Prop := operandTellsRow.holds Try.pinned (OpenSpec.ofChange operandTellsSpec)

/-- ITS FALSE NEIGHBOUR: 'it returns false'. Refute it at one input. -/
def operandTellsWrong : ChangeSpec := { name := "operandTells", fn := fun _ => fun
  | [d1, d2] => { results := [.lit (.bool false)], args := [d1, d2] }
  | _ => none }
def OperandTellsWrongFalsely : Prop := operandTellsRow.holds Try.pinned (OpenSpec.ofChange operandTellsWrong)

/-- 'linotypelaw06.OperandCanon': WHATEVER THE INPUT: true; the input reads as it did. -/
def operandCanonSpec : ChangeSpec := { name := "operandCanon", fn := fun _ => fun
  | [d1, d2] => { results := [.lit (.bool true)], args := [d1, d2] }
  | _ => none }
def operandCanonRow : OpenClaim := { program := "ytclhjdddakmafaa", sum := "991d2dd4334438a84b25d89506b3786b442a15a8e3d6156ea02da22adc7eb3d4", func := "linotype/linotypelaw06.OperandCanon", spec := "operandCanon", apart := false }
def OperandCanonSaid : Prop := operandCanonRow.holds Try.pinned (OpenSpec.ofChange operandCanonSpec)

/-- ITS FALSE NEIGHBOUR: 'it returns false'. Refute it at one input. -/
def operandCanonWrong : ChangeSpec := { name := "operandCanon", fn := fun _ => fun
  | [d1, d2] => { results := [.lit (.bool false)], args := [d1, d2] }
  | _ => none }
def OperandCanonWrongFalsely : Prop := operandCanonRow.holds Try.pinned (OpenSpec.ofChange operandCanonWrong)

/- THE SECOND FORM. 'bulk': how many values and letters a reading holds, each counted each time it is reached (what is shared counts as often as it is met; a slice's spare places count too). A statement '..UptoSaid' is the law's where the arguments, and the package variables that the reading takes, are together of bulk at most 1048576: NARROWER than '..Said'. Prove '..Said' where nothing that the law and all that it calls make is longer than what came in: it says more and counts as full. Else prove '..UptoSaid'. A law counts once. -/
mutual
def uptoBulk {H : Type} : DataW H → Nat
  | .lit (.string bytes) => bytes.length + 1
  | .lit _ => 1
  | .nil => 1
  | .ptr d => uptoBulk d + 1
  | .slice elems spare => uptoBulkAll elems + uptoBulkAll spare + 1
  | .agg parts => uptoBulkAll parts + 1
  | .iface _ d => uptoBulk d + 1
  | .map entries => uptoBulkEntries entries + 1
  | .held _ => 1
def uptoBulkAll {H : Type} : List (DataW H) → Nat
  | [] => 0
  | d :: r => uptoBulk d + uptoBulkAll r
def uptoBulkEntries {H : Type} : List (Lit × DataW H) → Nat
  | [] => 0
  | x :: r => uptoBulkEntry x + uptoBulkEntries r
def uptoBulkEntry {H : Type} : Lit × DataW H → Nat
  | (.string bytes, d) => bytes.length + uptoBulk d + 1
  | (_, d) => uptoBulk d + 1
 end
def uptoSmall : (H : Type) → List (DataW H) → Bool := fun _ ds => decide (uptoBulkAll ds ≤ 1048576)
def OpenSpec.upto (s : _root_.Go.ChangeSpec) : _root_.Go.OpenSpec := { _root_.Go.OpenSpec.ofChange s with cond := some uptoSmall }

/-- 'linotypelaw06.OperandImm', WHERE WHAT IT READS IS OF BULK AT MOST 1048576: true; the input reads as it did. -/
def operandImmUptoRow : OpenClaim := { program := "ytclhjdddakmafaa", sum := "991d2dd4334438a84b25d89506b3786b442a15a8e3d6156ea02da22adc7eb3d4", func := "linotype/linotypelaw06.OperandImm", spec := "operandImm", apart := false, narrowed := true }
def OperandImmUptoSaid : Prop := operandImmUptoRow.holds Try.pinned (OpenSpec.upto operandImmSpec)

/-- 'linotypelaw06.OperandLike', WHERE WHAT IT READS IS OF BULK AT MOST 1048576: true; the input reads as it did. -/
def operandLikeUptoRow : OpenClaim := { program := "ytclhjdddakmafaa", sum := "991d2dd4334438a84b25d89506b3786b442a15a8e3d6156ea02da22adc7eb3d4", func := "linotype/linotypelaw06.OperandLike", spec := "operandLike", apart := false, narrowed := true }
def OperandLikeUptoSaid : Prop := operandLikeUptoRow.holds Try.pinned (OpenSpec.upto operandLikeSpec)

/-- 'linotypelaw06.OperandKnown', WHERE WHAT IT READS IS OF BULK AT MOST 1048576: true; the input reads as it did. -/
def operandKnownUptoRow : OpenClaim := { program := "ytclhjdddakmafaa", sum := "991d2dd4334438a84b25d89506b3786b442a15a8e3d6156ea02da22adc7eb3d4", func := "linotype/linotypelaw06.OperandKnown", spec := "operandKnown", apart := false, narrowed := true }
def OperandKnownUptoSaid : Prop := operandKnownUptoRow.holds Try.pinned (OpenSpec.upto operandKnownSpec)

/-- 'linotypelaw06.OperandTells', WHERE WHAT IT READS IS OF BULK AT MOST 1048576: true; the input reads as it did. -/
def operandTellsUptoRow : OpenClaim := { program := "ytclhjdddakmafaa", sum := "991d2dd4334438a84b25d89506b3786b442a15a8e3d6156ea02da22adc7eb3d4", func := "linotype/linotypelaw06.OperandTells", spec := "operandTells", apart := false, narrowed := true }
def OperandTellsUptoSaid : Prop := operandTellsUptoRow.holds Try.pinned (OpenSpec.upto operandTellsSpec)

/-- 'linotypelaw06.OperandCanon', WHERE WHAT IT READS IS OF BULK AT MOST 1048576: true; the input reads as it did. -/
def operandCanonUptoRow : OpenClaim := { program := "ytclhjdddakmafaa", sum := "991d2dd4334438a84b25d89506b3786b442a15a8e3d6156ea02da22adc7eb3d4", func := "linotype/linotypelaw06.OperandCanon", spec := "operandCanon", apart := false, narrowed := true }
def OperandCanonUptoSaid : Prop := operandCanonUptoRow.holds Try.pinned (OpenSpec.upto operandCanonSpec)

end Rows
end Go.Proofs.Ytclhjdddakmafaa
