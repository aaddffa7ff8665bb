/-
  No cell of these rows narrows 'for every input' (looked for: loops, veiled, ifaces, maps, wideKeys, modest, calm, conditions, laid).
  DERIVED. THE GIVEN ROWS OF THIS SEAT. 6 by the template 'for every input the law returns true; each argument reads behind the call as it read before'; 0 by the template 'total and deterministic' (their statements: YtjkegmlfloomlaaTotals.lean).
  GIVEN WITH THE SEED: the statements are not yours to turn. If you find one false, say at which input.
  Laid BY PROGRAM, IN A SANDBOX (cutbox-rows.mjs): the forced cells as the released guide's own fill.sh prints them over the translation 6f986c8f92b01615… (all of the seat's roots in one cut). By AI agents, Wed Nov 11 2026. No macro, syntax, notation, axiom, sorry.
-/
import Derived.Test.YtjkegmlfloomlaaChecked
import GoSem.Claim
import GoSem.ClaimJoined
import GoSem.ClaimMapViews
import Derived.JoinedTies
import Derived.KernelRfl
namespace Go.Proofs.Ytjkegmlfloomlaa
/- THE CELL 'sum', in the pinned program and in every row, IS THE sha256 OF THE DUMP (.gsa) THAT YtjkegmlfloomlaaProg.lean LOADS. Nothing in Lean hashes anything: it is a label: what it is worth is what the hold of that sum in a sandbox is worth. -/
noncomputable def Try.pinned : Pinned := { name := "ytjkegmlfloomlaa", sum := "6f986c8f92b01615f5bf308def83402ed6c8d9fa3f6f88b1264c6447ea94cd1d", checked := Try.checked }
namespace Rows
def none {H : Type} : Left H := { results := [], args := [] }

/-- 'linotypelaw17.SseRows': WHATEVER THE INPUT: true; the input reads as it did. -/
def sseRowsSpec : ChangeSpec := { name := "sseRows", fn := fun _ => fun
  | [] => { results := [.lit (.bool true)], args := [] }
  | _ => none }
def sseRowsRow : OpenClaim := { program := "ytjkegmlfloomlaa", sum := "6f986c8f92b01615f5bf308def83402ed6c8d9fa3f6f88b1264c6447ea94cd1d", func := "linotype/linotypelaw17.SseRows", spec := "sseRows", unfollowed := true, recurses := true, apart := false }
def SseRowsSaid : Prop := sseRowsRow.holds Try.pinned (OpenSpec.ofChange sseRowsSpec)

/-- ITS FALSE NEIGHBOUR: 'it returns false'. Refute it at one input. -/
def sseRowsWrong : ChangeSpec := { name := "sseRows", fn := fun _ => fun
  | [] => { results := [.lit (.bool false)], args := [] }
  | _ => none }
def SseRowsWrongFalsely : Prop := sseRowsRow.holds Try.pinned (OpenSpec.ofChange sseRowsWrong)

/-- 'linotypelaw17.SseOf': WHATEVER THE INPUT: true; the input reads as it did. -/
def sseOfSpec : ChangeSpec := { name := "sseOf", fn := fun _ => fun
  | [d] => { results := [.lit (.bool true)], args := [d] }
  | _ => none }
def sseOfRow : OpenClaim := { program := "ytjkegmlfloomlaa", sum := "6f986c8f92b01615f5bf308def83402ed6c8d9fa3f6f88b1264c6447ea94cd1d", func := "linotype/linotypelaw17.SseOf", spec := "sseOf", unfollowed := true, recurses := true, apart := false }
def SseOfSaid : Prop := sseOfRow.holds Try.pinned (OpenSpec.ofChange sseOfSpec)

/-- ITS FALSE NEIGHBOUR: 'it returns false'. Refute it at one input. -/
def sseOfWrong : ChangeSpec := { name := "sseOf", fn := fun _ => fun
  | [d] => { results := [.lit (.bool false)], args := [d] }
  | _ => none }
def SseOfWrongFalsely : Prop := sseOfRow.holds Try.pinned (OpenSpec.ofChange sseOfWrong)

/-- 'linotypelaw17.SseKnown': WHATEVER THE INPUT: true; the input reads as it did. -/
def sseKnownSpec : ChangeSpec := { name := "sseKnown", fn := fun _ => fun
  | [] => { results := [.lit (.bool true)], args := [] }
  | _ => none }
def sseKnownRow : OpenClaim := { program := "ytjkegmlfloomlaa", sum := "6f986c8f92b01615f5bf308def83402ed6c8d9fa3f6f88b1264c6447ea94cd1d", func := "linotype/linotypelaw17.SseKnown", spec := "sseKnown", unfollowed := true, recurses := true, apart := false }
def SseKnownSaid : Prop := sseKnownRow.holds Try.pinned (OpenSpec.ofChange sseKnownSpec)

/-- ITS FALSE NEIGHBOUR: 'it returns false'. Refute it at one input. -/
def sseKnownWrong : ChangeSpec := { name := "sseKnown", fn := fun _ => fun
  | [] => { results := [.lit (.bool false)], args := [] }
  | _ => none }
def SseKnownWrongFalsely : Prop := sseKnownRow.holds Try.pinned (OpenSpec.ofChange sseKnownWrong)

/-- 'linotypelaw17.SseApart': WHATEVER THE INPUT: true; the input reads as it did. -/
def sseApartSpec : ChangeSpec := { name := "sseApart", fn := fun _ => fun
  | [d1, d2] => { results := [.lit (.bool true)], args := [d1, d2] }
  | _ => none }
def sseApartRow : OpenClaim := { program := "ytjkegmlfloomlaa", sum := "6f986c8f92b01615f5bf308def83402ed6c8d9fa3f6f88b1264c6447ea94cd1d", func := "linotype/linotypelaw17.SseApart", spec := "sseApart", unfollowed := true, recurses := true, apart := false }
def SseApartSaid : Prop := sseApartRow.holds Try.pinned (OpenSpec.ofChange sseApartSpec)

/-- ITS FALSE NEIGHBOUR: 'it returns false'. Refute it at one input. -/
def sseApartWrong : ChangeSpec := { name := "sseApart", fn := fun _ => fun
  | [d1, d2] => { results := [.lit (.bool false)], args := [d1, d2] }
  | _ => none }
def SseApartWrongFalsely : Prop := sseApartRow.holds Try.pinned (OpenSpec.ofChange sseApartWrong)

/-- 'linotypelaw17.SseAll': WHATEVER THE INPUT: true; the input reads as it did. -/
def sseAllSpec : ChangeSpec := { name := "sseAll", fn := fun _ => fun
  | [d] => { results := [.lit (.bool true)], args := [d] }
  | _ => none }
def sseAllRow : OpenClaim := { program := "ytjkegmlfloomlaa", sum := "6f986c8f92b01615f5bf308def83402ed6c8d9fa3f6f88b1264c6447ea94cd1d", func := "linotype/linotypelaw17.SseAll", spec := "sseAll", unfollowed := true, recurses := true, apart := false }
def SseAllSaid : Prop := sseAllRow.holds Try.pinned (OpenSpec.ofChange sseAllSpec)

/-- ITS FALSE NEIGHBOUR: 'it returns false'. Refute it at one input. -/
def sseAllWrong : ChangeSpec := { name := "sseAll", fn := fun _ => fun
  | [d] => { results := [.lit (.bool false)], args := [d] }
  | _ => none }
def SseAllWrongFalsely : Prop := sseAllRow.holds Try.pinned (OpenSpec.ofChange sseAllWrong)

/-- 'linotypelaw17.SseMay': WHATEVER THE INPUT: true; the input reads as it did. -/
def sseMaySpec : ChangeSpec := { name := "sseMay", fn := fun _ => fun
  | [d] => { results := [.lit (.bool true)], args := [d] }
  | _ => none }
def sseMayRow : OpenClaim := { program := "ytjkegmlfloomlaa", sum := "6f986c8f92b01615f5bf308def83402ed6c8d9fa3f6f88b1264c6447ea94cd1d", func := "linotype/linotypelaw17.SseMay", spec := "sseMay", unfollowed := true, recurses := true, apart := false }
def SseMaySaid : Prop := sseMayRow.holds Try.pinned (OpenSpec.ofChange sseMaySpec)

/-- ITS FALSE NEIGHBOUR: 'it returns false'. Refute it at one input. -/
def sseMayWrong : ChangeSpec := { name := "sseMay", fn := fun _ => fun
  | [d] => { results := [.lit (.bool false)], args := [d] }
  | _ => none }
def SseMayWrongFalsely : Prop := sseMayRow.holds Try.pinned (OpenSpec.ofChange sseMayWrong)

/- THE SECOND FORM. 'bulk': how many values and letters a reading holds, each counted each time it is reached (what is shared counts as often as it is met; a slice's spare places count too). A statement '..UptoSaid' is the law's where the arguments, and the package variables that the reading takes, are together of bulk at most 1048576: NARROWER than '..Said'. Prove '..Said' where nothing that the law and all that it calls make is longer than what came in: it says more and counts as full. Else prove '..UptoSaid'. A law counts once. -/
mutual
def uptoBulk {H : Type} : DataW H → Nat
  | .lit (.string bytes) => bytes.length + 1
  | .lit _ => 1
  | .nil => 1
  | .ptr d => uptoBulk d + 1
  | .slice elems spare => uptoBulkAll elems + uptoBulkAll spare + 1
  | .agg parts => uptoBulkAll parts + 1
  | .iface _ d => uptoBulk d + 1
  | .map entries => uptoBulkEntries entries + 1
  | .held _ => 1
def uptoBulkAll {H : Type} : List (DataW H) → Nat
  | [] => 0
  | d :: r => uptoBulk d + uptoBulkAll r
def uptoBulkEntries {H : Type} : List (Lit × DataW H) → Nat
  | [] => 0
  | x :: r => uptoBulkEntry x + uptoBulkEntries r
def uptoBulkEntry {H : Type} : Lit × DataW H → Nat
  | (.string bytes, d) => bytes.length + uptoBulk d + 1
  | (_, d) => uptoBulk d + 1
 end
def uptoSmall : (H : Type) → List (DataW H) → Bool := fun _ ds => decide (uptoBulkAll ds ≤ 1048576)
def OpenSpec.upto (s : _root_.Go.ChangeSpec) : _root_.Go.OpenSpec := { _root_.Go.OpenSpec.ofChange s with cond := some uptoSmall }

/-- 'linotypelaw17.SseRows', WHERE WHAT IT READS IS OF BULK AT MOST 1048576: true; the input reads as it did. -/
def sseRowsUptoRow : OpenClaim := { program := "ytjkegmlfloomlaa", sum := "6f986c8f92b01615f5bf308def83402ed6c8d9fa3f6f88b1264c6447ea94cd1d", func := "linotype/linotypelaw17.SseRows", spec := "sseRows", unfollowed := true, recurses := true, apart := false, narrowed := true }
def SseRowsUptoSaid : Prop := sseRowsUptoRow.holds Try.pinned (OpenSpec.upto sseRowsSpec)

/-- 'linotypelaw17.SseOf', WHERE WHAT IT READS IS OF BULK AT MOST 1048576: true; the input reads as it did. -/
def sseOfUptoRow : OpenClaim := { program := "ytjkegmlfloomlaa", sum := "6f986c8f92b01615f5bf308def83402ed6c8d9fa3f6f88b1264c6447ea94cd1d", func := "linotype/linotypelaw17.SseOf", spec := "sseOf", unfollowed := true, recurses := true, apart := false, narrowed := true }
def SseOfUptoSaid : Prop := sseOfUptoRow.holds Try.pinned (OpenSpec.upto sseOfSpec)

/-- 'linotypelaw17.SseKnown', WHERE WHAT IT READS IS OF BULK AT MOST 1048576: true; the input reads as it did. -/
def sseKnownUptoRow : OpenClaim := { program := "ytjkegmlfloomlaa", sum := "6f986c8f92b01615f5bf308def83402ed6c8d9fa3f6f88b1264c6447ea94cd1d", func := "linotype/linotypelaw17.SseKnown", spec := "sseKnown", unfollowed := true, recurses := true, apart := false, narrowed := true }
def SseKnownUptoSaid : Prop := sseKnownUptoRow.holds Try.pinned (OpenSpec.upto sseKnownSpec)

/-- 'linotypelaw17.SseApart', WHERE WHAT IT READS IS OF BULK AT MOST 1048576: true; the input reads as it did. -/
def sseApartUptoRow : OpenClaim := { program := "ytjkegmlfloomlaa", sum := "6f986c8f92b01615f5bf308def83402ed6c8d9fa3f6f88b1264c6447ea94cd1d", func := "linotype/linotypelaw17.SseApart", spec := "sseApart", unfollowed := true, recurses := true, apart := false, narrowed := true }
def SseApartUptoSaid : Prop := sseApartUptoRow.holds Try.pinned (OpenSpec.upto sseApartSpec)

/-- 'linotypelaw17.SseAll', WHERE WHAT IT READS IS OF BULK AT MOST 1048576: true; the input reads as it did. -/
def sseAllUptoRow : OpenClaim := { program := "ytjkegmlfloomlaa", sum := "6f986c8f92b01615f5bf308def83402ed6c8d9fa3f6f88b1264c6447ea94cd1d", func := "linotype/linotypelaw17.SseAll", spec := "sseAll", unfollowed := true, recurses := true, apart := false, narrowed := true }
def SseAllUptoSaid : Prop := sseAllUptoRow.holds Try.pinned (OpenSpec.upto sseAllSpec)

/-- 'linotypelaw17.SseMay', WHERE WHAT IT READS IS OF BULK AT MOST 1048576: true; the input reads as it did. -/
def sseMayUptoRow : OpenClaim := { program := "ytjkegmlfloomlaa", sum := "6f986c8f92b01615f5bf308def83402ed6c8d9fa3f6f88b1264c6447ea94cd1d", func := "linotype/linotypelaw17.SseMay", spec := "sseMay", unfollowed := true, recurses := true, apart := false, narrowed := true }
def SseMayUptoSaid : Prop := sseMayUptoRow.holds Try.pinned (OpenSpec.upto sseMaySpec)

end Rows
end Go.Proofs.Ytjkegmlfloomlaa
