/-
  No cell of these rows narrows 'for every input' (looked for: loops, veiled, ifaces, maps, wideKeys, modest, calm, conditions, laid).
  DERIVED. THE GIVEN ROWS OF THIS SEAT. 5 by the template 'for every input the law returns true; each argument reads behind the call as it read before'; 0 by the template 'total and deterministic' (their statements: YtlegmdfceifkcaaTotals.lean).
  GIVEN WITH THE SEED: the statements are not yours to turn. If you find one false, say at which input.
  Laid BY PROGRAM, IN A SANDBOX (cutbox-rows.mjs): the forced cells as the released guide's own fill.sh prints them over the translation 2974ae50c18e1bf6… (all of the seat's roots in one cut). By AI agents, Wed Nov 11 2026. No macro, syntax, notation, axiom, sorry.
-/
import Derived.Test.YtlegmdfceifkcaaChecked
import GoSem.Claim
import GoSem.ClaimJoined
import GoSem.ClaimMapViews
import Derived.JoinedTies
import Derived.KernelRfl
namespace Go.Proofs.Ytlegmdfceifkcaa
/- THE CELL 'sum', in the pinned program and in every row, IS THE sha256 OF THE DUMP (.gsa) THAT YtlegmdfceifkcaaProg.lean LOADS. Nothing in Lean hashes anything: it is a label: what it is worth is what the hold of that sum in a sandbox is worth. -/
noncomputable def Try.pinned : Pinned := { name := "ytlegmdfceifkcaa", sum := "2974ae50c18e1bf6a53bc5cd04ef14c8bd2e043b0e5eace5f8bcdd3343903ee3", checked := Try.checked }
namespace Rows
def none {H : Type} : Left H := { results := [], args := [] }

/-- 'linotypelaw05.MemTells': WHATEVER THE INPUT: true; the input reads as it did. -/
def memTellsSpec : ChangeSpec := { name := "memTells", fn := fun _ => fun
  | [d1, d2] => { results := [.lit (.bool true)], args := [d1, d2] }
  | _ => none }
def memTellsRow : OpenClaim := { program := "ytlegmdfceifkcaa", sum := "2974ae50c18e1bf6a53bc5cd04ef14c8bd2e043b0e5eace5f8bcdd3343903ee3", func := "linotype/linotypelaw05.MemTells", spec := "memTells", apart := false }
def MemTellsSaid : Prop := memTellsRow.holds Try.pinned (OpenSpec.ofChange memTellsSpec)

/-- ITS FALSE NEIGHBOUR: 'it returns false'. Refute it at one input. -/
def memTellsWrong : ChangeSpec := { name := "memTells", fn := fun _ => fun
  | [d1, d2] => { results := [.lit (.bool false)], args := [d1, d2] }
  | _ => none }
def MemTellsWrongFalsely : Prop := memTellsRow.holds Try.pinned (OpenSpec.ofChange memTellsWrong)

/-- 'linotypelaw05.MemAddresses': WHATEVER THE INPUT: true; the input reads as it did. -/
def memAddressesSpec : ChangeSpec := { name := "memAddresses", fn := fun _ => fun
  | [d1, d2, d3] => { results := [.lit (.bool true)], args := [d1, d2, d3] }
  | _ => none }
def memAddressesRow : OpenClaim := { program := "ytlegmdfceifkcaa", sum := "2974ae50c18e1bf6a53bc5cd04ef14c8bd2e043b0e5eace5f8bcdd3343903ee3", func := "linotype/linotypelaw05.MemAddresses", spec := "memAddresses", apart := false }
def MemAddressesSaid : Prop := memAddressesRow.holds Try.pinned (OpenSpec.ofChange memAddressesSpec)

/-- ITS FALSE NEIGHBOUR: 'it returns false'. Refute it at one input. -/
def memAddressesWrong : ChangeSpec := { name := "memAddresses", fn := fun _ => fun
  | [d1, d2, d3] => { results := [.lit (.bool false)], args := [d1, d2, d3] }
  | _ => none }
def MemAddressesWrongFalsely : Prop := memAddressesRow.holds Try.pinned (OpenSpec.ofChange memAddressesWrong)

/-- 'linotypelaw05.MemKnown': WHATEVER THE INPUT: true; the input reads as it did. -/
def memKnownSpec : ChangeSpec := { name := "memKnown", fn := fun _ => fun
  | [] => { results := [.lit (.bool true)], args := [] }
  | _ => none }
def memKnownRow : OpenClaim := { program := "ytlegmdfceifkcaa", sum := "2974ae50c18e1bf6a53bc5cd04ef14c8bd2e043b0e5eace5f8bcdd3343903ee3", func := "linotype/linotypelaw05.MemKnown", spec := "memKnown", apart := false }
def MemKnownSaid : Prop := memKnownRow.holds Try.pinned (OpenSpec.ofChange memKnownSpec)

/-- ITS FALSE NEIGHBOUR: 'it returns false'. Refute it at one input. -/
def memKnownWrong : ChangeSpec := { name := "memKnown", fn := fun _ => fun
  | [] => { results := [.lit (.bool false)], args := [] }
  | _ => none }
def MemKnownWrongFalsely : Prop := memKnownRow.holds Try.pinned (OpenSpec.ofChange memKnownWrong)

/-- 'linotypelaw05.MemCanon': WHATEVER THE INPUT: true; the input reads as it did. -/
def memCanonSpec : ChangeSpec := { name := "memCanon", fn := fun _ => fun
  | [d1, d2, d3] => { results := [.lit (.bool true)], args := [d1, d2, d3] }
  | _ => none }
def memCanonRow : OpenClaim := { program := "ytlegmdfceifkcaa", sum := "2974ae50c18e1bf6a53bc5cd04ef14c8bd2e043b0e5eace5f8bcdd3343903ee3", func := "linotype/linotypelaw05.MemCanon", spec := "memCanon", apart := false }
def MemCanonSaid : Prop := memCanonRow.holds Try.pinned (OpenSpec.ofChange memCanonSpec)

/-- ITS FALSE NEIGHBOUR: 'it returns false'. Refute it at one input. -/
def memCanonWrong : ChangeSpec := { name := "memCanon", fn := fun _ => fun
  | [d1, d2, d3] => { results := [.lit (.bool false)], args := [d1, d2, d3] }
  | _ => none }
def MemCanonWrongFalsely : Prop := memCanonRow.holds Try.pinned (OpenSpec.ofChange memCanonWrong)

/-- 'linotypelaw05.MemSame': WHATEVER THE INPUT: true; the input reads as it did. -/
def memSameSpec : ChangeSpec := { name := "memSame", fn := fun _ => fun
  | [d1, d2, d3, d4] => { results := [.lit (.bool true)], args := [d1, d2, d3, d4] }
  | _ => none }
def memSameRow : OpenClaim := { program := "ytlegmdfceifkcaa", sum := "2974ae50c18e1bf6a53bc5cd04ef14c8bd2e043b0e5eace5f8bcdd3343903ee3", func := "linotype/linotypelaw05.MemSame", spec := "memSame", apart := false }
def MemSameSaid : Prop := memSameRow.holds Try.pinned (OpenSpec.ofChange memSameSpec)

/-- ITS FALSE NEIGHBOUR: 'it returns false'. Refute it at one input. -/
def memSameWrong : ChangeSpec := { name := "memSame", fn := fun _ => fun
  | [d1, d2, d3, d4] => { results := [.lit (.bool false)], args := [d1, d2, d3, d4] }
  | _ => none }
def MemSameWrongFalsely : Prop := memSameRow.holds Try.pinned (OpenSpec.ofChange memSameWrong)

/- THE SECOND FORM. 'bulk': how many values and letters a reading holds, each counted each time it is reached (what is shared counts as often as it is met; a slice's spare places count too). A statement '..UptoSaid' is the law's where the arguments, and the package variables that the reading takes, are together of bulk at most 1048576: NARROWER than '..Said'. Prove '..Said' where nothing that the law and all that it calls make is longer than what came in: it says more and counts as full. Else prove '..UptoSaid'. A law counts once. -/
mutual
def uptoBulk {H : Type} : DataW H → Nat
  | .lit (.string bytes) => bytes.length + 1
  | .lit _ => 1
  | .nil => 1
  | .ptr d => uptoBulk d + 1
  | .slice elems spare => uptoBulkAll elems + uptoBulkAll spare + 1
  | .agg parts => uptoBulkAll parts + 1
  | .iface _ d => uptoBulk d + 1
  | .map entries => uptoBulkEntries entries + 1
  | .held _ => 1
def uptoBulkAll {H : Type} : List (DataW H) → Nat
  | [] => 0
  | d :: r => uptoBulk d + uptoBulkAll r
def uptoBulkEntries {H : Type} : List (Lit × DataW H) → Nat
  | [] => 0
  | x :: r => uptoBulkEntry x + uptoBulkEntries r
def uptoBulkEntry {H : Type} : Lit × DataW H → Nat
  | (.string bytes, d) => bytes.length + uptoBulk d + 1
  | (_, d) => uptoBulk d + 1
 end
def uptoSmall : (H : Type) → List (DataW H) → Bool := fun _ ds => decide (uptoBulkAll ds ≤ 1048576)
def OpenSpec.upto (s : _root_.Go.ChangeSpec) : _root_.Go.OpenSpec := { _root_.Go.OpenSpec.ofChange s with cond := some uptoSmall }

/-- 'linotypelaw05.MemTells', WHERE WHAT IT READS IS OF BULK AT MOST 1048576: true; the input reads as it did. -/
def memTellsUptoRow : OpenClaim := { program := "ytlegmdfceifkcaa", sum := "2974ae50c18e1bf6a53bc5cd04ef14c8bd2e043b0e5eace5f8bcdd3343903ee3", func := "linotype/linotypelaw05.MemTells", spec := "memTells", apart := false, narrowed := true }
def MemTellsUptoSaid : Prop := memTellsUptoRow.holds Try.pinned (OpenSpec.upto memTellsSpec)

/-- 'linotypelaw05.MemAddresses', WHERE WHAT IT READS IS OF BULK AT MOST 1048576: true; the input reads as it did. -/
def memAddressesUptoRow : OpenClaim := { program := "ytlegmdfceifkcaa", sum := "2974ae50c18e1bf6a53bc5cd04ef14c8bd2e043b0e5eace5f8bcdd3343903ee3", func := "linotype/linotypelaw05.MemAddresses", spec := "memAddresses", apart := false, narrowed := true }
def MemAddressesUptoSaid : Prop := memAddressesUptoRow.holds Try.pinned (OpenSpec.upto memAddressesSpec)

/-- 'linotypelaw05.MemKnown', WHERE WHAT IT READS IS OF BULK AT MOST 1048576: true; the input reads as it did. -/
def memKnownUptoRow : OpenClaim := { program := "ytlegmdfceifkcaa", sum := "2974ae50c18e1bf6a53bc5cd04ef14c8bd2e043b0e5eace5f8bcdd3343903ee3", func := "linotype/linotypelaw05.MemKnown", spec := "memKnown", apart := false, narrowed := true }
def MemKnownUptoSaid : Prop := memKnownUptoRow.holds Try.pinned (OpenSpec.upto memKnownSpec)

/-- 'linotypelaw05.MemCanon', WHERE WHAT IT READS IS OF BULK AT MOST 1048576: true; the input reads as it did. -/
def memCanonUptoRow : OpenClaim := { program := "ytlegmdfceifkcaa", sum := "2974ae50c18e1bf6a53bc5cd04ef14c8bd2e043b0e5eace5f8bcdd3343903ee3", func := "linotype/linotypelaw05.MemCanon", spec := "memCanon", apart := false, narrowed := true }
def MemCanonUptoSaid : Prop := memCanonUptoRow.holds Try.pinned (OpenSpec.upto memCanonSpec)

/-- 'linotypelaw05.MemSame', WHERE WHAT IT READS IS OF BULK AT MOST 1048576: true; the input reads as it did. -/
def memSameUptoRow : OpenClaim := { program := "ytlegmdfceifkcaa", sum := "2974ae50c18e1bf6a53bc5cd04ef14c8bd2e043b0e5eace5f8bcdd3343903ee3", func := "linotype/linotypelaw05.MemSame", spec := "memSame", apart := false, narrowed := true }
def MemSameUptoSaid : Prop := memSameUptoRow.holds Try.pinned (OpenSpec.upto memSameSpec)

end Rows
end Go.Proofs.Ytlegmdfceifkcaa
