/-
  No cell of these rows narrows 'for every input' (looked for: loops, veiled, ifaces, maps, wideKeys, modest, calm, conditions, laid).
  DERIVED. THE GIVEN ROWS OF THIS SEAT. 6 by the template 'for every input the law returns true; each argument reads behind the call as it read before'; 0 by the template 'total and deterministic' (their statements: YtmhgboeoiblmhaaTotals.lean).
  GIVEN WITH THE SEED: the statements are not yours to turn. If you find one false, say at which input.
  Laid BY PROGRAM, IN A SANDBOX (cutbox-rows.mjs): the forced cells as the released guide's own fill.sh prints them over the translation 7573fa802bea8660… (all of the seat's roots in one cut). By AI agents, Wed Nov 11 2026. No macro, syntax, notation, axiom, sorry.
-/
import Derived.Test.YtmhgboeoiblmhaaChecked
import GoSem.Claim
import GoSem.ClaimJoined
import GoSem.ClaimMapViews
import Derived.JoinedTies
import Derived.KernelRfl
namespace Go.Proofs.Ytmhgboeoiblmhaa
/- THE CELL 'sum', in the pinned program and in every row, IS THE sha256 OF THE DUMP (.gsa) THAT YtmhgboeoiblmhaaProg.lean LOADS. Nothing in Lean hashes anything: it is a label: what it is worth is what the hold of that sum in a sandbox is worth. -/
noncomputable def Try.pinned : Pinned := { name := "ytmhgboeoiblmhaa", sum := "7573fa802bea8660b59c1cad5ff0ed0a1b20d4479f8690675a31f73631e31feb", checked := Try.checked }
namespace Rows
def none {H : Type} : Left H := { results := [], args := [] }

/-- 'linotypelaw13.AluRows': WHATEVER THE INPUT: true; the input reads as it did. -/
def aluRowsSpec : ChangeSpec := { name := "aluRows", fn := fun _ => fun
  | [] => { results := [.lit (.bool true)], args := [] }
  | _ => none }
def aluRowsRow : OpenClaim := { program := "ytmhgboeoiblmhaa", sum := "7573fa802bea8660b59c1cad5ff0ed0a1b20d4479f8690675a31f73631e31feb", func := "linotype/linotypelaw13.AluRows", spec := "aluRows", unfollowed := true, recurses := true, apart := false }
def AluRowsSaid : Prop := aluRowsRow.holds Try.pinned (OpenSpec.ofChange aluRowsSpec)

/-- ITS FALSE NEIGHBOUR: 'it returns false'. Refute it at one input. -/
def aluRowsWrong : ChangeSpec := { name := "aluRows", fn := fun _ => fun
  | [] => { results := [.lit (.bool false)], args := [] }
  | _ => none }
def AluRowsWrongFalsely : Prop := aluRowsRow.holds Try.pinned (OpenSpec.ofChange aluRowsWrong)

/-- 'linotypelaw13.AluOf': WHATEVER THE INPUT: true; the input reads as it did. -/
def aluOfSpec : ChangeSpec := { name := "aluOf", fn := fun _ => fun
  | [d] => { results := [.lit (.bool true)], args := [d] }
  | _ => none }
def aluOfRow : OpenClaim := { program := "ytmhgboeoiblmhaa", sum := "7573fa802bea8660b59c1cad5ff0ed0a1b20d4479f8690675a31f73631e31feb", func := "linotype/linotypelaw13.AluOf", spec := "aluOf", unfollowed := true, recurses := true, apart := false }
def AluOfSaid : Prop := aluOfRow.holds Try.pinned (OpenSpec.ofChange aluOfSpec)

/-- ITS FALSE NEIGHBOUR: 'it returns false'. Refute it at one input. -/
def aluOfWrong : ChangeSpec := { name := "aluOf", fn := fun _ => fun
  | [d] => { results := [.lit (.bool false)], args := [d] }
  | _ => none }
def AluOfWrongFalsely : Prop := aluOfRow.holds Try.pinned (OpenSpec.ofChange aluOfWrong)

/-- 'linotypelaw13.AluEight': WHATEVER THE INPUT: true; the input reads as it did. -/
def aluEightSpec : ChangeSpec := { name := "aluEight", fn := fun _ => fun
  | [d1, d2] => { results := [.lit (.bool true)], args := [d1, d2] }
  | _ => none }
def aluEightRow : OpenClaim := { program := "ytmhgboeoiblmhaa", sum := "7573fa802bea8660b59c1cad5ff0ed0a1b20d4479f8690675a31f73631e31feb", func := "linotype/linotypelaw13.AluEight", spec := "aluEight", unfollowed := true, recurses := true, apart := false }
def AluEightSaid : Prop := aluEightRow.holds Try.pinned (OpenSpec.ofChange aluEightSpec)

/-- ITS FALSE NEIGHBOUR: 'it returns false'. Refute it at one input. -/
def aluEightWrong : ChangeSpec := { name := "aluEight", fn := fun _ => fun
  | [d1, d2] => { results := [.lit (.bool false)], args := [d1, d2] }
  | _ => none }
def AluEightWrongFalsely : Prop := aluEightRow.holds Try.pinned (OpenSpec.ofChange aluEightWrong)

/-- 'linotypelaw13.AluApart': WHATEVER THE INPUT: true; the input reads as it did. -/
def aluApartSpec : ChangeSpec := { name := "aluApart", fn := fun _ => fun
  | [d1, d2] => { results := [.lit (.bool true)], args := [d1, d2] }
  | _ => none }
def aluApartRow : OpenClaim := { program := "ytmhgboeoiblmhaa", sum := "7573fa802bea8660b59c1cad5ff0ed0a1b20d4479f8690675a31f73631e31feb", func := "linotype/linotypelaw13.AluApart", spec := "aluApart", unfollowed := true, recurses := true, apart := false }
def AluApartSaid : Prop := aluApartRow.holds Try.pinned (OpenSpec.ofChange aluApartSpec)

/-- ITS FALSE NEIGHBOUR: 'it returns false'. Refute it at one input. -/
def aluApartWrong : ChangeSpec := { name := "aluApart", fn := fun _ => fun
  | [d1, d2] => { results := [.lit (.bool false)], args := [d1, d2] }
  | _ => none }
def AluApartWrongFalsely : Prop := aluApartRow.holds Try.pinned (OpenSpec.ofChange aluApartWrong)

/-- 'linotypelaw13.AluKnown': WHATEVER THE INPUT: true; the input reads as it did. -/
def aluKnownSpec : ChangeSpec := { name := "aluKnown", fn := fun _ => fun
  | [] => { results := [.lit (.bool true)], args := [] }
  | _ => none }
def aluKnownRow : OpenClaim := { program := "ytmhgboeoiblmhaa", sum := "7573fa802bea8660b59c1cad5ff0ed0a1b20d4479f8690675a31f73631e31feb", func := "linotype/linotypelaw13.AluKnown", spec := "aluKnown", unfollowed := true, recurses := true, apart := false }
def AluKnownSaid : Prop := aluKnownRow.holds Try.pinned (OpenSpec.ofChange aluKnownSpec)

/-- ITS FALSE NEIGHBOUR: 'it returns false'. Refute it at one input. -/
def aluKnownWrong : ChangeSpec := { name := "aluKnown", fn := fun _ => fun
  | [] => { results := [.lit (.bool false)], args := [] }
  | _ => none }
def AluKnownWrongFalsely : Prop := aluKnownRow.holds Try.pinned (OpenSpec.ofChange aluKnownWrong)

/-- 'linotypelaw13.AluMay': WHATEVER THE INPUT: true; the input reads as it did. -/
def aluMaySpec : ChangeSpec := { name := "aluMay", fn := fun _ => fun
  | [d] => { results := [.lit (.bool true)], args := [d] }
  | _ => none }
def aluMayRow : OpenClaim := { program := "ytmhgboeoiblmhaa", sum := "7573fa802bea8660b59c1cad5ff0ed0a1b20d4479f8690675a31f73631e31feb", func := "linotype/linotypelaw13.AluMay", spec := "aluMay", unfollowed := true, recurses := true, apart := false }
def AluMaySaid : Prop := aluMayRow.holds Try.pinned (OpenSpec.ofChange aluMaySpec)

/-- ITS FALSE NEIGHBOUR: 'it returns false'. Refute it at one input. -/
def aluMayWrong : ChangeSpec := { name := "aluMay", fn := fun _ => fun
  | [d] => { results := [.lit (.bool false)], args := [d] }
  | _ => none }
def AluMayWrongFalsely : Prop := aluMayRow.holds Try.pinned (OpenSpec.ofChange aluMayWrong)

/- THE SECOND FORM. 'bulk': how many values and letters a reading holds, each counted each time it is reached (what is shared counts as often as it is met; a slice's spare places count too). A statement '..UptoSaid' is the law's where the arguments, and the package variables that the reading takes, are together of bulk at most 1048576: NARROWER than '..Said'. Prove '..Said' where nothing that the law and all that it calls make is longer than what came in: it says more and counts as full. Else prove '..UptoSaid'. A law counts once. -/
mutual
def uptoBulk {H : Type} : DataW H → Nat
  | .lit (.string bytes) => bytes.length + 1
  | .lit _ => 1
  | .nil => 1
  | .ptr d => uptoBulk d + 1
  | .slice elems spare => uptoBulkAll elems + uptoBulkAll spare + 1
  | .agg parts => uptoBulkAll parts + 1
  | .iface _ d => uptoBulk d + 1
  | .map entries => uptoBulkEntries entries + 1
  | .held _ => 1
def uptoBulkAll {H : Type} : List (DataW H) → Nat
  | [] => 0
  | d :: r => uptoBulk d + uptoBulkAll r
def uptoBulkEntries {H : Type} : List (Lit × DataW H) → Nat
  | [] => 0
  | x :: r => uptoBulkEntry x + uptoBulkEntries r
def uptoBulkEntry {H : Type} : Lit × DataW H → Nat
  | (.string bytes, d) => bytes.length + uptoBulk d + 1
  | (_, d) => uptoBulk d + 1
 end
def uptoSmall : (H : Type) → List (DataW H) → Bool := fun _ ds => decide (uptoBulkAll ds ≤ 1048576)
def OpenSpec.upto (s : _root_.Go.ChangeSpec) : _root_.Go.OpenSpec := { _root_.Go.OpenSpec.ofChange s with cond := some uptoSmall }

/-- 'linotypelaw13.AluRows', WHERE WHAT IT READS IS OF BULK AT MOST 1048576: true; the input reads as it did. -/
def aluRowsUptoRow : OpenClaim := { program := "ytmhgboeoiblmhaa", sum := "7573fa802bea8660b59c1cad5ff0ed0a1b20d4479f8690675a31f73631e31feb", func := "linotype/linotypelaw13.AluRows", spec := "aluRows", unfollowed := true, recurses := true, apart := false, narrowed := true }
def AluRowsUptoSaid : Prop := aluRowsUptoRow.holds Try.pinned (OpenSpec.upto aluRowsSpec)

/-- 'linotypelaw13.AluOf', WHERE WHAT IT READS IS OF BULK AT MOST 1048576: true; the input reads as it did. -/
def aluOfUptoRow : OpenClaim := { program := "ytmhgboeoiblmhaa", sum := "7573fa802bea8660b59c1cad5ff0ed0a1b20d4479f8690675a31f73631e31feb", func := "linotype/linotypelaw13.AluOf", spec := "aluOf", unfollowed := true, recurses := true, apart := false, narrowed := true }
def AluOfUptoSaid : Prop := aluOfUptoRow.holds Try.pinned (OpenSpec.upto aluOfSpec)

/-- 'linotypelaw13.AluEight', WHERE WHAT IT READS IS OF BULK AT MOST 1048576: true; the input reads as it did. -/
def aluEightUptoRow : OpenClaim := { program := "ytmhgboeoiblmhaa", sum := "7573fa802bea8660b59c1cad5ff0ed0a1b20d4479f8690675a31f73631e31feb", func := "linotype/linotypelaw13.AluEight", spec := "aluEight", unfollowed := true, recurses := true, apart := false, narrowed := true }
def AluEightUptoSaid : Prop := aluEightUptoRow.holds Try.pinned (OpenSpec.upto aluEightSpec)

/-- 'linotypelaw13.AluApart', WHERE WHAT IT READS IS OF BULK AT MOST 1048576: true; the input reads as it did. -/
def aluApartUptoRow : OpenClaim := { program := "ytmhgboeoiblmhaa", sum := "7573fa802bea8660b59c1cad5ff0ed0a1b20d4479f8690675a31f73631e31feb", func := "linotype/linotypelaw13.AluApart", spec := "aluApart", unfollowed := true, recurses := true, apart := false, narrowed := true }
def AluApartUptoSaid : Prop := aluApartUptoRow.holds Try.pinned (OpenSpec.upto aluApartSpec)

/-- 'linotypelaw13.AluKnown', WHERE WHAT IT READS IS OF BULK AT MOST 1048576: true; the input reads as it did. -/
def aluKnownUptoRow : OpenClaim := { program := "ytmhgboeoiblmhaa", sum := "7573fa802bea8660b59c1cad5ff0ed0a1b20d4479f8690675a31f73631e31feb", func := "linotype/linotypelaw13.AluKnown", spec := "aluKnown", unfollowed := true, recurses := true, apart := false, narrowed := true }
def AluKnownUptoSaid : Prop := aluKnownUptoRow.holds Try.pinned (OpenSpec.upto aluKnownSpec)

/-- 'linotypelaw13.AluMay', WHERE WHAT IT READS IS OF BULK AT MOST 1048576: true; the input reads as it did. -/
def aluMayUptoRow : OpenClaim := { program := "ytmhgboeoiblmhaa", sum := "7573fa802bea8660b59c1cad5ff0ed0a1b20d4479f8690675a31f73631e31feb", func := "linotype/linotypelaw13.AluMay", spec := "aluMay", unfollowed := true, recurses := true, apart := false, narrowed := true }
def AluMayUptoSaid : Prop := aluMayUptoRow.holds Try.pinned (OpenSpec.upto aluMaySpec)

end Rows
end Go.Proofs.Ytmhgboeoiblmhaa
