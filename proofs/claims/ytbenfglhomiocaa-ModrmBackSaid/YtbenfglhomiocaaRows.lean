/-
  No cell of these rows narrows 'for every input' (looked for: loops, veiled, ifaces, maps, wideKeys, modest, calm, conditions, laid).
  DERIVED. THE GIVEN ROWS OF THIS SEAT. 4 by the template 'for every input the law returns true; each argument reads behind the call as it read before'; 0 by the template 'total and deterministic' (their statements: YtbenfglhomiocaaTotals.lean).
  GIVEN WITH THE SEED: the statements are not yours to turn. If you find one false, say at which input.
  Laid BY PROGRAM, IN A SANDBOX (cutbox-rows.mjs): the forced cells as the released guide's own fill.sh prints them over the translation 6cdb12bfec4a62f9… (all of the seat's roots in one cut). By AI agents, Wed Nov 11 2026. No macro, syntax, notation, axiom, sorry.
-/
import Derived.Test.YtbenfglhomiocaaChecked
import GoSem.Claim
import GoSem.ClaimJoined
import GoSem.ClaimMapViews
import Derived.JoinedTies
import Derived.KernelRfl
namespace Go.Proofs.Ytbenfglhomiocaa
/- THE CELL 'sum', in the pinned program and in every row, IS THE sha256 OF THE DUMP (.gsa) THAT YtbenfglhomiocaaProg.lean LOADS. Nothing in Lean hashes anything: it is a label: what it is worth is what the hold of that sum in a sandbox is worth. -/
noncomputable def Try.pinned : Pinned := { name := "ytbenfglhomiocaa", sum := "6cdb12bfec4a62f91f5511f4c10b8e26ac498e31c36f8c5e2953454fc56ad6a5", checked := Try.checked }
namespace Rows
def none {H : Type} : Left H := { results := [], args := [] }

/-- 'linotypelaw09.ModrmReads': WHATEVER THE INPUT: true; the input reads as it did. -/
def modrmReadsSpec : ChangeSpec := { name := "modrmReads", fn := fun _ => fun
  | [d1, d2, d3, d4] => { results := [.lit (.bool true)], args := [d1, d2, d3, d4] }
  | _ => none }
def modrmReadsRow : OpenClaim := { program := "ytbenfglhomiocaa", sum := "6cdb12bfec4a62f91f5511f4c10b8e26ac498e31c36f8c5e2953454fc56ad6a5", func := "linotype/linotypelaw09.ModrmReads", spec := "modrmReads", unfollowed := true, recurses := true, apart := false }
def ModrmReadsSaid : Prop := modrmReadsRow.holds Try.pinned (OpenSpec.ofChange modrmReadsSpec)

/-- ITS FALSE NEIGHBOUR: 'it returns false'. Refute it at one input. -/
def modrmReadsWrong : ChangeSpec := { name := "modrmReads", fn := fun _ => fun
  | [d1, d2, d3, d4] => { results := [.lit (.bool false)], args := [d1, d2, d3, d4] }
  | _ => none }
def ModrmReadsWrongFalsely : Prop := modrmReadsRow.holds Try.pinned (OpenSpec.ofChange modrmReadsWrong)

/-- 'linotypelaw09.ModrmKnown': WHATEVER THE INPUT: true; the input reads as it did. -/
def modrmKnownSpec : ChangeSpec := { name := "modrmKnown", fn := fun _ => fun
  | [] => { results := [.lit (.bool true)], args := [] }
  | _ => none }
def modrmKnownRow : OpenClaim := { program := "ytbenfglhomiocaa", sum := "6cdb12bfec4a62f91f5511f4c10b8e26ac498e31c36f8c5e2953454fc56ad6a5", func := "linotype/linotypelaw09.ModrmKnown", spec := "modrmKnown", unfollowed := true, recurses := true, apart := false }
def ModrmKnownSaid : Prop := modrmKnownRow.holds Try.pinned (OpenSpec.ofChange modrmKnownSpec)

/-- ITS FALSE NEIGHBOUR: 'it returns false'. Refute it at one input. -/
def modrmKnownWrong : ChangeSpec := { name := "modrmKnown", fn := fun _ => fun
  | [] => { results := [.lit (.bool false)], args := [] }
  | _ => none }
def ModrmKnownWrongFalsely : Prop := modrmKnownRow.holds Try.pinned (OpenSpec.ofChange modrmKnownWrong)

/-- 'linotypelaw09.ModrmFound': WHATEVER THE INPUT: true; the input reads as it did. -/
def modrmFoundSpec : ChangeSpec := { name := "modrmFound", fn := fun _ => fun
  | [d1, d2, d3] => { results := [.lit (.bool true)], args := [d1, d2, d3] }
  | _ => none }
def modrmFoundRow : OpenClaim := { program := "ytbenfglhomiocaa", sum := "6cdb12bfec4a62f91f5511f4c10b8e26ac498e31c36f8c5e2953454fc56ad6a5", func := "linotype/linotypelaw09.ModrmFound", spec := "modrmFound", unfollowed := true, recurses := true, apart := false }
def ModrmFoundSaid : Prop := modrmFoundRow.holds Try.pinned (OpenSpec.ofChange modrmFoundSpec)

/-- ITS FALSE NEIGHBOUR: 'it returns false'. Refute it at one input. -/
def modrmFoundWrong : ChangeSpec := { name := "modrmFound", fn := fun _ => fun
  | [d1, d2, d3] => { results := [.lit (.bool false)], args := [d1, d2, d3] }
  | _ => none }
def ModrmFoundWrongFalsely : Prop := modrmFoundRow.holds Try.pinned (OpenSpec.ofChange modrmFoundWrong)

/-- 'linotypelaw09.ModrmBack': WHATEVER THE INPUT: true; the input reads as it did. -/
def modrmBackSpec : ChangeSpec := { name := "modrmBack", fn := fun _ => fun
  | [d1, d2, d3, d4, d5] => { results := [.lit (.bool true)], args := [d1, d2, d3, d4, d5] }
  | _ => none }
def modrmBackRow : OpenClaim := { program := "ytbenfglhomiocaa", sum := "6cdb12bfec4a62f91f5511f4c10b8e26ac498e31c36f8c5e2953454fc56ad6a5", func := "linotype/linotypelaw09.ModrmBack", spec := "modrmBack", unfollowed := true, recurses := true, apart := false }
def ModrmBackSaid : Prop := modrmBackRow.holds Try.pinned (OpenSpec.ofChange modrmBackSpec)

/-- ITS FALSE NEIGHBOUR: 'it returns false'. Refute it at one input. -/
def modrmBackWrong : ChangeSpec := { name := "modrmBack", fn := fun _ => fun
  | [d1, d2, d3, d4, d5] => { results := [.lit (.bool false)], args := [d1, d2, d3, d4, d5] }
  | _ => none }
def ModrmBackWrongFalsely : Prop := modrmBackRow.holds Try.pinned (OpenSpec.ofChange modrmBackWrong)

/- THE SECOND FORM. 'bulk': how many values and letters a reading holds, each counted each time it is reached (what is shared counts as often as it is met; a slice's spare places count too). A statement '..UptoSaid' is the law's where the arguments, and the package variables that the reading takes, are together of bulk at most 1048576: NARROWER than '..Said'. Prove '..Said' where nothing that the law and all that it calls make is longer than what came in: it says more and counts as full. Else prove '..UptoSaid'. A law counts once. -/
mutual
def uptoBulk {H : Type} : DataW H → Nat
  | .lit (.string bytes) => bytes.length + 1
  | .lit _ => 1
  | .nil => 1
  | .ptr d => uptoBulk d + 1
  | .slice elems spare => uptoBulkAll elems + uptoBulkAll spare + 1
  | .agg parts => uptoBulkAll parts + 1
  | .iface _ d => uptoBulk d + 1
  | .map entries => uptoBulkEntries entries + 1
  | .held _ => 1
def uptoBulkAll {H : Type} : List (DataW H) → Nat
  | [] => 0
  | d :: r => uptoBulk d + uptoBulkAll r
def uptoBulkEntries {H : Type} : List (Lit × DataW H) → Nat
  | [] => 0
  | x :: r => uptoBulkEntry x + uptoBulkEntries r
def uptoBulkEntry {H : Type} : Lit × DataW H → Nat
  | (.string bytes, d) => bytes.length + uptoBulk d + 1
  | (_, d) => uptoBulk d + 1
 end
def uptoSmall : (H : Type) → List (DataW H) → Bool := fun _ ds => decide (uptoBulkAll ds ≤ 1048576)
def OpenSpec.upto (s : _root_.Go.ChangeSpec) : _root_.Go.OpenSpec := { _root_.Go.OpenSpec.ofChange s with cond := some uptoSmall }

/-- 'linotypelaw09.ModrmReads', WHERE WHAT IT READS IS OF BULK AT MOST 1048576: true; the input reads as it did. -/
def modrmReadsUptoRow : OpenClaim := { program := "ytbenfglhomiocaa", sum := "6cdb12bfec4a62f91f5511f4c10b8e26ac498e31c36f8c5e2953454fc56ad6a5", func := "linotype/linotypelaw09.ModrmReads", spec := "modrmReads", unfollowed := true, recurses := true, apart := false, narrowed := true }
def ModrmReadsUptoSaid : Prop := modrmReadsUptoRow.holds Try.pinned (OpenSpec.upto modrmReadsSpec)

/-- 'linotypelaw09.ModrmKnown', WHERE WHAT IT READS IS OF BULK AT MOST 1048576: true; the input reads as it did. -/
def modrmKnownUptoRow : OpenClaim := { program := "ytbenfglhomiocaa", sum := "6cdb12bfec4a62f91f5511f4c10b8e26ac498e31c36f8c5e2953454fc56ad6a5", func := "linotype/linotypelaw09.ModrmKnown", spec := "modrmKnown", unfollowed := true, recurses := true, apart := false, narrowed := true }
def ModrmKnownUptoSaid : Prop := modrmKnownUptoRow.holds Try.pinned (OpenSpec.upto modrmKnownSpec)

/-- 'linotypelaw09.ModrmFound', WHERE WHAT IT READS IS OF BULK AT MOST 1048576: true; the input reads as it did. -/
def modrmFoundUptoRow : OpenClaim := { program := "ytbenfglhomiocaa", sum := "6cdb12bfec4a62f91f5511f4c10b8e26ac498e31c36f8c5e2953454fc56ad6a5", func := "linotype/linotypelaw09.ModrmFound", spec := "modrmFound", unfollowed := true, recurses := true, apart := false, narrowed := true }
def ModrmFoundUptoSaid : Prop := modrmFoundUptoRow.holds Try.pinned (OpenSpec.upto modrmFoundSpec)

/-- 'linotypelaw09.ModrmBack', WHERE WHAT IT READS IS OF BULK AT MOST 1048576: true; the input reads as it did. -/
def modrmBackUptoRow : OpenClaim := { program := "ytbenfglhomiocaa", sum := "6cdb12bfec4a62f91f5511f4c10b8e26ac498e31c36f8c5e2953454fc56ad6a5", func := "linotype/linotypelaw09.ModrmBack", spec := "modrmBack", unfollowed := true, recurses := true, apart := false, narrowed := true }
def ModrmBackUptoSaid : Prop := modrmBackUptoRow.holds Try.pinned (OpenSpec.upto modrmBackSpec)

end Rows
end Go.Proofs.Ytbenfglhomiocaa
