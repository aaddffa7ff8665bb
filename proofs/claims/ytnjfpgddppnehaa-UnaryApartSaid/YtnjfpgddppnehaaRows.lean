/-
  No cell of these rows narrows 'for every input' (looked for: loops, veiled, ifaces, maps, wideKeys, modest, calm, conditions, laid).
  DERIVED. THE GIVEN ROWS OF THIS SEAT. 5 by the template 'for every input the law returns true; each argument reads behind the call as it read before'; 0 by the template 'total and deterministic' (their statements: YtnjfpgddppnehaaTotals.lean).
  GIVEN WITH THE SEED: the statements are not yours to turn. If you find one false, say at which input.
  Laid BY PROGRAM, IN A SANDBOX (cutbox-rows.mjs): the forced cells as the released guide's own fill.sh prints them over the translation 1726e354b94d00cb… (all of the seat's roots in one cut). By AI agents, Wed Nov 11 2026. No macro, syntax, notation, axiom, sorry.
-/
import Derived.Test.YtnjfpgddppnehaaChecked
import GoSem.Claim
import GoSem.ClaimJoined
import GoSem.ClaimMapViews
import Derived.JoinedTies
import Derived.KernelRfl
namespace Go.Proofs.Ytnjfpgddppnehaa
/- THE CELL 'sum', in the pinned program and in every row, IS THE sha256 OF THE DUMP (.gsa) THAT YtnjfpgddppnehaaProg.lean LOADS. Nothing in Lean hashes anything: it is a label: what it is worth is what the hold of that sum in a sandbox is worth. -/
noncomputable def Try.pinned : Pinned := { name := "ytnjfpgddppnehaa", sum := "1726e354b94d00cbbf7c6db6f3f3f90771787f5f93815f70aa8eb305a40b933c", checked := Try.checked }
namespace Rows
def none {H : Type} : Left H := { results := [], args := [] }

/-- 'linotypelaw14.UnaryOf': WHATEVER THE INPUT: true; the input reads as it did. -/
def unaryOfSpec : ChangeSpec := { name := "unaryOf", fn := fun _ => fun
  | [d] => { results := [.lit (.bool true)], args := [d] }
  | _ => none }
def unaryOfRow : OpenClaim := { program := "ytnjfpgddppnehaa", sum := "1726e354b94d00cbbf7c6db6f3f3f90771787f5f93815f70aa8eb305a40b933c", func := "linotype/linotypelaw14.UnaryOf", spec := "unaryOf", unfollowed := true, recurses := true, apart := false }
def UnaryOfSaid : Prop := unaryOfRow.holds Try.pinned (OpenSpec.ofChange unaryOfSpec)

/-- ITS FALSE NEIGHBOUR: 'it returns false'. Refute it at one input. -/
def unaryOfWrong : ChangeSpec := { name := "unaryOf", fn := fun _ => fun
  | [d] => { results := [.lit (.bool false)], args := [d] }
  | _ => none }
def UnaryOfWrongFalsely : Prop := unaryOfRow.holds Try.pinned (OpenSpec.ofChange unaryOfWrong)

/-- 'linotypelaw14.UnaryShifts': WHATEVER THE INPUT: true; the input reads as it did. -/
def unaryShiftsSpec : ChangeSpec := { name := "unaryShifts", fn := fun _ => fun
  | [d1, d2] => { results := [.lit (.bool true)], args := [d1, d2] }
  | _ => none }
def unaryShiftsRow : OpenClaim := { program := "ytnjfpgddppnehaa", sum := "1726e354b94d00cbbf7c6db6f3f3f90771787f5f93815f70aa8eb305a40b933c", func := "linotype/linotypelaw14.UnaryShifts", spec := "unaryShifts", unfollowed := true, recurses := true, apart := false }
def UnaryShiftsSaid : Prop := unaryShiftsRow.holds Try.pinned (OpenSpec.ofChange unaryShiftsSpec)

/-- ITS FALSE NEIGHBOUR: 'it returns false'. Refute it at one input. -/
def unaryShiftsWrong : ChangeSpec := { name := "unaryShifts", fn := fun _ => fun
  | [d1, d2] => { results := [.lit (.bool false)], args := [d1, d2] }
  | _ => none }
def UnaryShiftsWrongFalsely : Prop := unaryShiftsRow.holds Try.pinned (OpenSpec.ofChange unaryShiftsWrong)

/-- 'linotypelaw14.UnaryApart': WHATEVER THE INPUT: true; the input reads as it did. -/
def unaryApartSpec : ChangeSpec := { name := "unaryApart", fn := fun _ => fun
  | [d1, d2] => { results := [.lit (.bool true)], args := [d1, d2] }
  | _ => none }
def unaryApartRow : OpenClaim := { program := "ytnjfpgddppnehaa", sum := "1726e354b94d00cbbf7c6db6f3f3f90771787f5f93815f70aa8eb305a40b933c", func := "linotype/linotypelaw14.UnaryApart", spec := "unaryApart", unfollowed := true, recurses := true, apart := false }
def UnaryApartSaid : Prop := unaryApartRow.holds Try.pinned (OpenSpec.ofChange unaryApartSpec)

/-- ITS FALSE NEIGHBOUR: 'it returns false'. Refute it at one input. -/
def unaryApartWrong : ChangeSpec := { name := "unaryApart", fn := fun _ => fun
  | [d1, d2] => { results := [.lit (.bool false)], args := [d1, d2] }
  | _ => none }
def UnaryApartWrongFalsely : Prop := unaryApartRow.holds Try.pinned (OpenSpec.ofChange unaryApartWrong)

/-- 'linotypelaw14.UnaryKnown': WHATEVER THE INPUT: true; the input reads as it did. -/
def unaryKnownSpec : ChangeSpec := { name := "unaryKnown", fn := fun _ => fun
  | [] => { results := [.lit (.bool true)], args := [] }
  | _ => none }
def unaryKnownRow : OpenClaim := { program := "ytnjfpgddppnehaa", sum := "1726e354b94d00cbbf7c6db6f3f3f90771787f5f93815f70aa8eb305a40b933c", func := "linotype/linotypelaw14.UnaryKnown", spec := "unaryKnown", unfollowed := true, recurses := true, apart := false }
def UnaryKnownSaid : Prop := unaryKnownRow.holds Try.pinned (OpenSpec.ofChange unaryKnownSpec)

/-- ITS FALSE NEIGHBOUR: 'it returns false'. Refute it at one input. -/
def unaryKnownWrong : ChangeSpec := { name := "unaryKnown", fn := fun _ => fun
  | [] => { results := [.lit (.bool false)], args := [] }
  | _ => none }
def UnaryKnownWrongFalsely : Prop := unaryKnownRow.holds Try.pinned (OpenSpec.ofChange unaryKnownWrong)

/-- 'linotypelaw14.UnaryMay': WHATEVER THE INPUT: true; the input reads as it did. -/
def unaryMaySpec : ChangeSpec := { name := "unaryMay", fn := fun _ => fun
  | [d] => { results := [.lit (.bool true)], args := [d] }
  | _ => none }
def unaryMayRow : OpenClaim := { program := "ytnjfpgddppnehaa", sum := "1726e354b94d00cbbf7c6db6f3f3f90771787f5f93815f70aa8eb305a40b933c", func := "linotype/linotypelaw14.UnaryMay", spec := "unaryMay", unfollowed := true, recurses := true, apart := false }
def UnaryMaySaid : Prop := unaryMayRow.holds Try.pinned (OpenSpec.ofChange unaryMaySpec)

/-- ITS FALSE NEIGHBOUR: 'it returns false'. Refute it at one input. -/
def unaryMayWrong : ChangeSpec := { name := "unaryMay", fn := fun _ => fun
  | [d] => { results := [.lit (.bool false)], args := [d] }
  | _ => none }
def UnaryMayWrongFalsely : Prop := unaryMayRow.holds Try.pinned (OpenSpec.ofChange unaryMayWrong)

/- THE SECOND FORM. 'bulk': how many values and letters a reading holds, each counted each time it is reached (what is shared counts as often as it is met; a slice's spare places count too). A statement '..UptoSaid' is the law's where the arguments, and the package variables that the reading takes, are together of bulk at most 1048576: NARROWER than '..Said'. Prove '..Said' where nothing that the law and all that it calls make is longer than what came in: it says more and counts as full. Else prove '..UptoSaid'. A law counts once. -/
mutual
def uptoBulk {H : Type} : DataW H → Nat
  | .lit (.string bytes) => bytes.length + 1
  | .lit _ => 1
  | .nil => 1
  | .ptr d => uptoBulk d + 1
  | .slice elems spare => uptoBulkAll elems + uptoBulkAll spare + 1
  | .agg parts => uptoBulkAll parts + 1
  | .iface _ d => uptoBulk d + 1
  | .map entries => uptoBulkEntries entries + 1
  | .held _ => 1
def uptoBulkAll {H : Type} : List (DataW H) → Nat
  | [] => 0
  | d :: r => uptoBulk d + uptoBulkAll r
def uptoBulkEntries {H : Type} : List (Lit × DataW H) → Nat
  | [] => 0
  | x :: r => uptoBulkEntry x + uptoBulkEntries r
def uptoBulkEntry {H : Type} : Lit × DataW H → Nat
  | (.string bytes, d) => bytes.length + uptoBulk d + 1
  | (_, d) => uptoBulk d + 1
 end
def uptoSmall : (H : Type) → List (DataW H) → Bool := fun _ ds => decide (uptoBulkAll ds ≤ 1048576)
def OpenSpec.upto (s : _root_.Go.ChangeSpec) : _root_.Go.OpenSpec := { _root_.Go.OpenSpec.ofChange s with cond := some uptoSmall }

/-- 'linotypelaw14.UnaryOf', WHERE WHAT IT READS IS OF BULK AT MOST 1048576: true; the input reads as it did. -/
def unaryOfUptoRow : OpenClaim := { program := "ytnjfpgddppnehaa", sum := "1726e354b94d00cbbf7c6db6f3f3f90771787f5f93815f70aa8eb305a40b933c", func := "linotype/linotypelaw14.UnaryOf", spec := "unaryOf", unfollowed := true, recurses := true, apart := false, narrowed := true }
def UnaryOfUptoSaid : Prop := unaryOfUptoRow.holds Try.pinned (OpenSpec.upto unaryOfSpec)

/-- 'linotypelaw14.UnaryShifts', WHERE WHAT IT READS IS OF BULK AT MOST 1048576: true; the input reads as it did. -/
def unaryShiftsUptoRow : OpenClaim := { program := "ytnjfpgddppnehaa", sum := "1726e354b94d00cbbf7c6db6f3f3f90771787f5f93815f70aa8eb305a40b933c", func := "linotype/linotypelaw14.UnaryShifts", spec := "unaryShifts", unfollowed := true, recurses := true, apart := false, narrowed := true }
def UnaryShiftsUptoSaid : Prop := unaryShiftsUptoRow.holds Try.pinned (OpenSpec.upto unaryShiftsSpec)

/-- 'linotypelaw14.UnaryApart', WHERE WHAT IT READS IS OF BULK AT MOST 1048576: true; the input reads as it did. -/
def unaryApartUptoRow : OpenClaim := { program := "ytnjfpgddppnehaa", sum := "1726e354b94d00cbbf7c6db6f3f3f90771787f5f93815f70aa8eb305a40b933c", func := "linotype/linotypelaw14.UnaryApart", spec := "unaryApart", unfollowed := true, recurses := true, apart := false, narrowed := true }
def UnaryApartUptoSaid : Prop := unaryApartUptoRow.holds Try.pinned (OpenSpec.upto unaryApartSpec)

/-- 'linotypelaw14.UnaryKnown', WHERE WHAT IT READS IS OF BULK AT MOST 1048576: true; the input reads as it did. -/
def unaryKnownUptoRow : OpenClaim := { program := "ytnjfpgddppnehaa", sum := "1726e354b94d00cbbf7c6db6f3f3f90771787f5f93815f70aa8eb305a40b933c", func := "linotype/linotypelaw14.UnaryKnown", spec := "unaryKnown", unfollowed := true, recurses := true, apart := false, narrowed := true }
def UnaryKnownUptoSaid : Prop := unaryKnownUptoRow.holds Try.pinned (OpenSpec.upto unaryKnownSpec)

/-- 'linotypelaw14.UnaryMay', WHERE WHAT IT READS IS OF BULK AT MOST 1048576: true; the input reads as it did. -/
def unaryMayUptoRow : OpenClaim := { program := "ytnjfpgddppnehaa", sum := "1726e354b94d00cbbf7c6db6f3f3f90771787f5f93815f70aa8eb305a40b933c", func := "linotype/linotypelaw14.UnaryMay", spec := "unaryMay", unfollowed := true, recurses := true, apart := false, narrowed := true }
def UnaryMayUptoSaid : Prop := unaryMayUptoRow.holds Try.pinned (OpenSpec.upto unaryMaySpec)

end Rows
end Go.Proofs.Ytnjfpgddppnehaa
