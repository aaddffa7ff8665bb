/-
  No cell of these rows narrows 'for every input' (looked for: loops, veiled, ifaces, maps, wideKeys, modest, calm, conditions, laid).
  DERIVED. THE GIVEN ROWS OF THIS SEAT. 3 by the template 'for every input the law returns true; each argument reads behind the call as it read before'; 0 by the template 'total and deterministic' (their statements: YtndiilfjeconbaaTotals.lean).
  GIVEN WITH THE SEED: the statements are not yours to turn. If you find one false, say at which input.
  Laid BY PROGRAM, IN A SANDBOX (cutbox-rows.mjs): the forced cells as the released guide's own fill.sh prints them over the translation 6c34bf471e895890… (all of the seat's roots in one cut). By AI agents, Wed Nov 11 2026. No macro, syntax, notation, axiom, sorry.
-/
import Derived.Test.YtndiilfjeconbaaChecked
import GoSem.Claim
import GoSem.ClaimJoined
import GoSem.ClaimMapViews
import Derived.JoinedTies
import Derived.KernelRfl
namespace Go.Proofs.Ytndiilfjeconbaa
/- THE CELL 'sum', in the pinned program and in every row, IS THE sha256 OF THE DUMP (.gsa) THAT YtndiilfjeconbaaProg.lean LOADS. Nothing in Lean hashes anything: it is a label: what it is worth is what the hold of that sum in a sandbox is worth. -/
noncomputable def Try.pinned : Pinned := { name := "ytndiilfjeconbaa", sum := "6c34bf471e8958902bef57b49fbd66987aae7ccb5f6066ce740e245f707a9163", checked := Try.checked }
namespace Rows
def none {H : Type} : Left H := { results := [], args := [] }

/-- 'linotypelaw08.InstKnown': WHATEVER THE INPUT: true; the input reads as it did. -/
def instKnownSpec : ChangeSpec := { name := "instKnown", fn := fun _ => fun
  | [] => { results := [.lit (.bool true)], args := [] }
  | _ => none }
def instKnownRow : OpenClaim := { program := "ytndiilfjeconbaa", sum := "6c34bf471e8958902bef57b49fbd66987aae7ccb5f6066ce740e245f707a9163", func := "linotype/linotypelaw08.InstKnown", spec := "instKnown", unfollowed := true, recurses := true, apart := false }
def InstKnownSaid : Prop := instKnownRow.holds Try.pinned (OpenSpec.ofChange instKnownSpec)

/-- ITS FALSE NEIGHBOUR: 'it returns false'. Refute it at one input. -/
def instKnownWrong : ChangeSpec := { name := "instKnown", fn := fun _ => fun
  | [] => { results := [.lit (.bool false)], args := [] }
  | _ => none }
def InstKnownWrongFalsely : Prop := instKnownRow.holds Try.pinned (OpenSpec.ofChange instKnownWrong)

/-- 'linotypelaw08.InstSame': WHATEVER THE INPUT: true; the input reads as it did. -/
def instSameSpec : ChangeSpec := { name := "instSame", fn := fun _ => fun
  | [d1, d2, d3] => { results := [.lit (.bool true)], args := [d1, d2, d3] }
  | _ => none }
def instSameRow : OpenClaim := { program := "ytndiilfjeconbaa", sum := "6c34bf471e8958902bef57b49fbd66987aae7ccb5f6066ce740e245f707a9163", func := "linotype/linotypelaw08.InstSame", spec := "instSame", unfollowed := true, recurses := true, apart := false }
def InstSameSaid : Prop := instSameRow.holds Try.pinned (OpenSpec.ofChange instSameSpec)

/-- ITS FALSE NEIGHBOUR: 'it returns false'. Refute it at one input. -/
def instSameWrong : ChangeSpec := { name := "instSame", fn := fun _ => fun
  | [d1, d2, d3] => { results := [.lit (.bool false)], args := [d1, d2, d3] }
  | _ => none }
def InstSameWrongFalsely : Prop := instSameRow.holds Try.pinned (OpenSpec.ofChange instSameWrong)

/-- 'linotypelaw08.InstTells': WHATEVER THE INPUT: true; the input reads as it did. -/
def instTellsSpec : ChangeSpec := { name := "instTells", fn := fun _ => fun
  | [d1, d2] => { results := [.lit (.bool true)], args := [d1, d2] }
  | _ => none }
def instTellsRow : OpenClaim := { program := "ytndiilfjeconbaa", sum := "6c34bf471e8958902bef57b49fbd66987aae7ccb5f6066ce740e245f707a9163", func := "linotype/linotypelaw08.InstTells", spec := "instTells", unfollowed := true, recurses := true, apart := false }
def InstTellsSaid : Prop := instTellsRow.holds Try.pinned (OpenSpec.ofChange instTellsSpec)

/-- ITS FALSE NEIGHBOUR: 'it returns false'. Refute it at one input. -/
def instTellsWrong : ChangeSpec := { name := "instTells", fn := fun _ => fun
  | [d1, d2] => { results := [.lit (.bool false)], args := [d1, d2] }
  | _ => none }
def InstTellsWrongFalsely : Prop := instTellsRow.holds Try.pinned (OpenSpec.ofChange instTellsWrong)

/- THE SECOND FORM. 'bulk': how many values and letters a reading holds, each counted each time it is reached (what is shared counts as often as it is met; a slice's spare places count too). A statement '..UptoSaid' is the law's where the arguments, and the package variables that the reading takes, are together of bulk at most 1048576: NARROWER than '..Said'. Prove '..Said' where nothing that the law and all that it calls make is longer than what came in: it says more and counts as full. Else prove '..UptoSaid'. A law counts once. -/
mutual
def uptoBulk {H : Type} : DataW H → Nat
  | .lit (.string bytes) => bytes.length + 1
  | .lit _ => 1
  | .nil => 1
  | .ptr d => uptoBulk d + 1
  | .slice elems spare => uptoBulkAll elems + uptoBulkAll spare + 1
  | .agg parts => uptoBulkAll parts + 1
  | .iface _ d => uptoBulk d + 1
  | .map entries => uptoBulkEntries entries + 1
  | .held _ => 1
def uptoBulkAll {H : Type} : List (DataW H) → Nat
  | [] => 0
  | d :: r => uptoBulk d + uptoBulkAll r
def uptoBulkEntries {H : Type} : List (Lit × DataW H) → Nat
  | [] => 0
  | x :: r => uptoBulkEntry x + uptoBulkEntries r
def uptoBulkEntry {H : Type} : Lit × DataW H → Nat
  | (.string bytes, d) => bytes.length + uptoBulk d + 1
  | (_, d) => uptoBulk d + 1
 end
def uptoSmall : (H : Type) → List (DataW H) → Bool := fun _ ds => decide (uptoBulkAll ds ≤ 1048576)
def OpenSpec.upto (s : _root_.Go.ChangeSpec) : _root_.Go.OpenSpec := { _root_.Go.OpenSpec.ofChange s with cond := some uptoSmall }

/-- 'linotypelaw08.InstKnown', WHERE WHAT IT READS IS OF BULK AT MOST 1048576: true; the input reads as it did. -/
def instKnownUptoRow : OpenClaim := { program := "ytndiilfjeconbaa", sum := "6c34bf471e8958902bef57b49fbd66987aae7ccb5f6066ce740e245f707a9163", func := "linotype/linotypelaw08.InstKnown", spec := "instKnown", unfollowed := true, recurses := true, apart := false, narrowed := true }
def InstKnownUptoSaid : Prop := instKnownUptoRow.holds Try.pinned (OpenSpec.upto instKnownSpec)

/-- 'linotypelaw08.InstSame', WHERE WHAT IT READS IS OF BULK AT MOST 1048576: true; the input reads as it did. -/
def instSameUptoRow : OpenClaim := { program := "ytndiilfjeconbaa", sum := "6c34bf471e8958902bef57b49fbd66987aae7ccb5f6066ce740e245f707a9163", func := "linotype/linotypelaw08.InstSame", spec := "instSame", unfollowed := true, recurses := true, apart := false, narrowed := true }
def InstSameUptoSaid : Prop := instSameUptoRow.holds Try.pinned (OpenSpec.upto instSameSpec)

/-- 'linotypelaw08.InstTells', WHERE WHAT IT READS IS OF BULK AT MOST 1048576: true; the input reads as it did. -/
def instTellsUptoRow : OpenClaim := { program := "ytndiilfjeconbaa", sum := "6c34bf471e8958902bef57b49fbd66987aae7ccb5f6066ce740e245f707a9163", func := "linotype/linotypelaw08.InstTells", spec := "instTells", unfollowed := true, recurses := true, apart := false, narrowed := true }
def InstTellsUptoSaid : Prop := instTellsUptoRow.holds Try.pinned (OpenSpec.upto instTellsSpec)

end Rows
end Go.Proofs.Ytndiilfjeconbaa
