/-
  No cell of these rows narrows 'for every input' (looked for: loops, veiled, ifaces, maps, wideKeys, modest, calm, conditions, laid).
  DERIVED. THE GIVEN ROWS OF THIS SEAT. 6 by the template 'for every input the law returns true; each argument reads behind the call as it read before'; 0 by the template 'total and deterministic' (their statements: YtadnligjjjpoaaaTotals.lean).
  GIVEN WITH THE SEED: the statements are not yours to turn. If you find one false, say at which input.
  Laid BY PROGRAM, IN A SANDBOX (cutbox-rows.mjs): the forced cells as the released guide's own fill.sh prints them over the translation 438a4bbd3a660ec6… (all of the seat's roots in one cut). By AI agents, Wed Nov 11 2026. No macro, syntax, notation, axiom, sorry.
-/
import Derived.Test.YtadnligjjjpoaaaChecked
import GoSem.Claim
import GoSem.ClaimJoined
import GoSem.ClaimMapViews
import Derived.JoinedTies
import Derived.KernelRfl
namespace Go.Proofs.Ytadnligjjjpoaaa
/- THE CELL 'sum', in the pinned program and in every row, IS THE sha256 OF THE DUMP (.gsa) THAT YtadnligjjjpoaaaProg.lean LOADS. Nothing in Lean hashes anything: it is a label: what it is worth is what the hold of that sum in a sandbox is worth. -/
noncomputable def Try.pinned : Pinned := { name := "ytadnligjjjpoaaa", sum := "438a4bbd3a660ec6beced88b728b93b5c4d624687eccce84d33137faa324810f", checked := Try.checked }
namespace Rows
def none {H : Type} : Left H := { results := [], args := [] }

/-- 'linotypelaw18.AvxRows': WHATEVER THE INPUT: true; the input reads as it did. -/
def avxRowsSpec : ChangeSpec := { name := "avxRows", fn := fun _ => fun
  | [] => { results := [.lit (.bool true)], args := [] }
  | _ => none }
def avxRowsRow : OpenClaim := { program := "ytadnligjjjpoaaa", sum := "438a4bbd3a660ec6beced88b728b93b5c4d624687eccce84d33137faa324810f", func := "linotype/linotypelaw18.AvxRows", spec := "avxRows", unfollowed := true, recurses := true, apart := false }
def AvxRowsSaid : Prop := avxRowsRow.holds Try.pinned (OpenSpec.ofChange avxRowsSpec)

/-- ITS FALSE NEIGHBOUR: 'it returns false'. Refute it at one input. -/
def avxRowsWrong : ChangeSpec := { name := "avxRows", fn := fun _ => fun
  | [] => { results := [.lit (.bool false)], args := [] }
  | _ => none }
def AvxRowsWrongFalsely : Prop := avxRowsRow.holds Try.pinned (OpenSpec.ofChange avxRowsWrong)

/-- 'linotypelaw18.AvxOf': WHATEVER THE INPUT: true; the input reads as it did. -/
def avxOfSpec : ChangeSpec := { name := "avxOf", fn := fun _ => fun
  | [d] => { results := [.lit (.bool true)], args := [d] }
  | _ => none }
def avxOfRow : OpenClaim := { program := "ytadnligjjjpoaaa", sum := "438a4bbd3a660ec6beced88b728b93b5c4d624687eccce84d33137faa324810f", func := "linotype/linotypelaw18.AvxOf", spec := "avxOf", unfollowed := true, recurses := true, apart := false }
def AvxOfSaid : Prop := avxOfRow.holds Try.pinned (OpenSpec.ofChange avxOfSpec)

/-- ITS FALSE NEIGHBOUR: 'it returns false'. Refute it at one input. -/
def avxOfWrong : ChangeSpec := { name := "avxOf", fn := fun _ => fun
  | [d] => { results := [.lit (.bool false)], args := [d] }
  | _ => none }
def AvxOfWrongFalsely : Prop := avxOfRow.holds Try.pinned (OpenSpec.ofChange avxOfWrong)

/-- 'linotypelaw18.AvxKnown': WHATEVER THE INPUT: true; the input reads as it did. -/
def avxKnownSpec : ChangeSpec := { name := "avxKnown", fn := fun _ => fun
  | [] => { results := [.lit (.bool true)], args := [] }
  | _ => none }
def avxKnownRow : OpenClaim := { program := "ytadnligjjjpoaaa", sum := "438a4bbd3a660ec6beced88b728b93b5c4d624687eccce84d33137faa324810f", func := "linotype/linotypelaw18.AvxKnown", spec := "avxKnown", unfollowed := true, recurses := true, apart := false }
def AvxKnownSaid : Prop := avxKnownRow.holds Try.pinned (OpenSpec.ofChange avxKnownSpec)

/-- ITS FALSE NEIGHBOUR: 'it returns false'. Refute it at one input. -/
def avxKnownWrong : ChangeSpec := { name := "avxKnown", fn := fun _ => fun
  | [] => { results := [.lit (.bool false)], args := [] }
  | _ => none }
def AvxKnownWrongFalsely : Prop := avxKnownRow.holds Try.pinned (OpenSpec.ofChange avxKnownWrong)

/-- 'linotypelaw18.AvxApart': WHATEVER THE INPUT: true; the input reads as it did. -/
def avxApartSpec : ChangeSpec := { name := "avxApart", fn := fun _ => fun
  | [d1, d2] => { results := [.lit (.bool true)], args := [d1, d2] }
  | _ => none }
def avxApartRow : OpenClaim := { program := "ytadnligjjjpoaaa", sum := "438a4bbd3a660ec6beced88b728b93b5c4d624687eccce84d33137faa324810f", func := "linotype/linotypelaw18.AvxApart", spec := "avxApart", unfollowed := true, recurses := true, apart := false }
def AvxApartSaid : Prop := avxApartRow.holds Try.pinned (OpenSpec.ofChange avxApartSpec)

/-- ITS FALSE NEIGHBOUR: 'it returns false'. Refute it at one input. -/
def avxApartWrong : ChangeSpec := { name := "avxApart", fn := fun _ => fun
  | [d1, d2] => { results := [.lit (.bool false)], args := [d1, d2] }
  | _ => none }
def AvxApartWrongFalsely : Prop := avxApartRow.holds Try.pinned (OpenSpec.ofChange avxApartWrong)

/-- 'linotypelaw18.AvxPairs': WHATEVER THE INPUT: true; the input reads as it did. -/
def avxPairsSpec : ChangeSpec := { name := "avxPairs", fn := fun _ => fun
  | [d] => { results := [.lit (.bool true)], args := [d] }
  | _ => none }
def avxPairsRow : OpenClaim := { program := "ytadnligjjjpoaaa", sum := "438a4bbd3a660ec6beced88b728b93b5c4d624687eccce84d33137faa324810f", func := "linotype/linotypelaw18.AvxPairs", spec := "avxPairs", unfollowed := true, recurses := true, apart := false }
def AvxPairsSaid : Prop := avxPairsRow.holds Try.pinned (OpenSpec.ofChange avxPairsSpec)

/-- ITS FALSE NEIGHBOUR: 'it returns false'. Refute it at one input. -/
def avxPairsWrong : ChangeSpec := { name := "avxPairs", fn := fun _ => fun
  | [d] => { results := [.lit (.bool false)], args := [d] }
  | _ => none }
def AvxPairsWrongFalsely : Prop := avxPairsRow.holds Try.pinned (OpenSpec.ofChange avxPairsWrong)

/-- 'linotypelaw18.AvxMay': WHATEVER THE INPUT: true; the input reads as it did. -/
def avxMaySpec : ChangeSpec := { name := "avxMay", fn := fun _ => fun
  | [d] => { results := [.lit (.bool true)], args := [d] }
  | _ => none }
def avxMayRow : OpenClaim := { program := "ytadnligjjjpoaaa", sum := "438a4bbd3a660ec6beced88b728b93b5c4d624687eccce84d33137faa324810f", func := "linotype/linotypelaw18.AvxMay", spec := "avxMay", unfollowed := true, recurses := true, apart := false }
def AvxMaySaid : Prop := avxMayRow.holds Try.pinned (OpenSpec.ofChange avxMaySpec)

/-- ITS FALSE NEIGHBOUR: 'it returns false'. Refute it at one input. -/
def avxMayWrong : ChangeSpec := { name := "avxMay", fn := fun _ => fun
  | [d] => { results := [.lit (.bool false)], args := [d] }
  | _ => none }
def AvxMayWrongFalsely : Prop := avxMayRow.holds Try.pinned (OpenSpec.ofChange avxMayWrong)

/- THE SECOND FORM. 'bulk': how many values and letters a reading holds, each counted each time it is reached (what is shared counts as often as it is met; a slice's spare places count too). A statement '..UptoSaid' is the law's where the arguments, and the package variables that the reading takes, are together of bulk at most 1048576: NARROWER than '..Said'. Prove '..Said' where nothing that the law and all that it calls make is longer than what came in: it says more and counts as full. Else prove '..UptoSaid'. A law counts once. -/
mutual
def uptoBulk {H : Type} : DataW H → Nat
  | .lit (.string bytes) => bytes.length + 1
  | .lit _ => 1
  | .nil => 1
  | .ptr d => uptoBulk d + 1
  | .slice elems spare => uptoBulkAll elems + uptoBulkAll spare + 1
  | .agg parts => uptoBulkAll parts + 1
  | .iface _ d => uptoBulk d + 1
  | .map entries => uptoBulkEntries entries + 1
  | .held _ => 1
def uptoBulkAll {H : Type} : List (DataW H) → Nat
  | [] => 0
  | d :: r => uptoBulk d + uptoBulkAll r
def uptoBulkEntries {H : Type} : List (Lit × DataW H) → Nat
  | [] => 0
  | x :: r => uptoBulkEntry x + uptoBulkEntries r
def uptoBulkEntry {H : Type} : Lit × DataW H → Nat
  | (.string bytes, d) => bytes.length + uptoBulk d + 1
  | (_, d) => uptoBulk d + 1
 end
def uptoSmall : (H : Type) → List (DataW H) → Bool := fun _ ds => decide (uptoBulkAll ds ≤ 1048576)
def OpenSpec.upto (s : _root_.Go.ChangeSpec) : _root_.Go.OpenSpec := { _root_.Go.OpenSpec.ofChange s with cond := some uptoSmall }

/-- 'linotypelaw18.AvxRows', WHERE WHAT IT READS IS OF BULK AT MOST 1048576: true; the input reads as it did. -/
def avxRowsUptoRow : OpenClaim := { program := "ytadnligjjjpoaaa", sum := "438a4bbd3a660ec6beced88b728b93b5c4d624687eccce84d33137faa324810f", func := "linotype/linotypelaw18.AvxRows", spec := "avxRows", unfollowed := true, recurses := true, apart := false, narrowed := true }
def AvxRowsUptoSaid : Prop := avxRowsUptoRow.holds Try.pinned (OpenSpec.upto avxRowsSpec)

/-- 'linotypelaw18.AvxOf', WHERE WHAT IT READS IS OF BULK AT MOST 1048576: true; the input reads as it did. -/
def avxOfUptoRow : OpenClaim := { program := "ytadnligjjjpoaaa", sum := "438a4bbd3a660ec6beced88b728b93b5c4d624687eccce84d33137faa324810f", func := "linotype/linotypelaw18.AvxOf", spec := "avxOf", unfollowed := true, recurses := true, apart := false, narrowed := true }
def AvxOfUptoSaid : Prop := avxOfUptoRow.holds Try.pinned (OpenSpec.upto avxOfSpec)

/-- 'linotypelaw18.AvxKnown', WHERE WHAT IT READS IS OF BULK AT MOST 1048576: true; the input reads as it did. -/
def avxKnownUptoRow : OpenClaim := { program := "ytadnligjjjpoaaa", sum := "438a4bbd3a660ec6beced88b728b93b5c4d624687eccce84d33137faa324810f", func := "linotype/linotypelaw18.AvxKnown", spec := "avxKnown", unfollowed := true, recurses := true, apart := false, narrowed := true }
def AvxKnownUptoSaid : Prop := avxKnownUptoRow.holds Try.pinned (OpenSpec.upto avxKnownSpec)

/-- 'linotypelaw18.AvxApart', WHERE WHAT IT READS IS OF BULK AT MOST 1048576: true; the input reads as it did. -/
def avxApartUptoRow : OpenClaim := { program := "ytadnligjjjpoaaa", sum := "438a4bbd3a660ec6beced88b728b93b5c4d624687eccce84d33137faa324810f", func := "linotype/linotypelaw18.AvxApart", spec := "avxApart", unfollowed := true, recurses := true, apart := false, narrowed := true }
def AvxApartUptoSaid : Prop := avxApartUptoRow.holds Try.pinned (OpenSpec.upto avxApartSpec)

/-- 'linotypelaw18.AvxPairs', WHERE WHAT IT READS IS OF BULK AT MOST 1048576: true; the input reads as it did. -/
def avxPairsUptoRow : OpenClaim := { program := "ytadnligjjjpoaaa", sum := "438a4bbd3a660ec6beced88b728b93b5c4d624687eccce84d33137faa324810f", func := "linotype/linotypelaw18.AvxPairs", spec := "avxPairs", unfollowed := true, recurses := true, apart := false, narrowed := true }
def AvxPairsUptoSaid : Prop := avxPairsUptoRow.holds Try.pinned (OpenSpec.upto avxPairsSpec)

/-- 'linotypelaw18.AvxMay', WHERE WHAT IT READS IS OF BULK AT MOST 1048576: true; the input reads as it did. -/
def avxMayUptoRow : OpenClaim := { program := "ytadnligjjjpoaaa", sum := "438a4bbd3a660ec6beced88b728b93b5c4d624687eccce84d33137faa324810f", func := "linotype/linotypelaw18.AvxMay", spec := "avxMay", unfollowed := true, recurses := true, apart := false, narrowed := true }
def AvxMayUptoSaid : Prop := avxMayUptoRow.holds Try.pinned (OpenSpec.upto avxMaySpec)

end Rows
end Go.Proofs.Ytadnligjjjpoaaa
