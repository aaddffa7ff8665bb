/-
  The law 'FieldTells', by lengths: each way, run.
-/
import Derived.Test.YtclgmeoofmidfaaTellsH
namespace Go.Proofs.Ytclgmeoofmidfaa.TellsL
open Go.Sim Go.Proofs.Ytclgmeoofmidfaa.Fld
set_option maxRecDepth 100000

theorem r3z {val : Nat → Int} (h : Holds val [lenF 3]) : runL val _ h 3 (a 2) tabZ = true := by kernel_rfl
theorem r3n {val : Nat → Int} (h : Holds val [lenF 3]) : runL val _ h 3 (a 2) tabN = true := by kernel_rfl
theorem r3s1 {val : Nat → Int} (h : Holds val (lenF 3 :: eqs 1)) : runL val _ h 3 (ci 1) (tabS 1) = true := by kernel_rfl
theorem r3s2 {val : Nat → Int} (h : Holds val (lenF 3 :: eqs 2)) : runL val _ h 3 (ci 2) (tabS 2) = true := by kernel_rfl
theorem r3s4 {val : Nat → Int} (h : Holds val (lenF 3 :: eqs 4)) : runL val _ h 3 (ci 4) (tabS 4) = true := by kernel_rfl
theorem r3s8 {val : Nat → Int} (h : Holds val (lenF 3 :: eqs 8)) : runL val _ h 3 (ci 8) (tabS 8) = true := by kernel_rfl
theorem d3 : DL 3 := ⟨fun val h => leaf h trivial (by kernel_rfl) (by kernel_rfl) (by kernel_rfl) (by kernel_rfl) (by kernel_rfl) (r3z h), fun val h => leaf h trivial (by kernel_rfl) (by kernel_rfl) (by kernel_rfl) (by kernel_rfl) (by kernel_rfl) (r3n h), fun val h => leaf h trivial (by kernel_rfl) (by kernel_rfl) (by kernel_rfl) (by kernel_rfl) (by kernel_rfl) (r3s1 h), fun val h => leaf h trivial (by kernel_rfl) (by kernel_rfl) (by kernel_rfl) (by kernel_rfl) (by kernel_rfl) (r3s2 h), fun val h => leaf h trivial (by kernel_rfl) (by kernel_rfl) (by kernel_rfl) (by kernel_rfl) (by kernel_rfl) (r3s4 h), fun val h => leaf h trivial (by kernel_rfl) (by kernel_rfl) (by kernel_rfl) (by kernel_rfl) (by kernel_rfl) (r3s8 h)⟩

theorem r8z {val : Nat → Int} (h : Holds val [lenF 8]) : runL val _ h 8 (a 2) tabZ = true := by kernel_rfl
theorem r8n {val : Nat → Int} (h : Holds val [lenF 8]) : runL val _ h 8 (a 2) tabN = true := by kernel_rfl
theorem r8s1 {val : Nat → Int} (h : Holds val (lenF 8 :: eqs 1)) : runL val _ h 8 (ci 1) (tabS 1) = true := by kernel_rfl
theorem r8s2 {val : Nat → Int} (h : Holds val (lenF 8 :: eqs 2)) : runL val _ h 8 (ci 2) (tabS 2) = true := by kernel_rfl
theorem r8s4 {val : Nat → Int} (h : Holds val (lenF 8 :: eqs 4)) : runL val _ h 8 (ci 4) (tabS 4) = true := by kernel_rfl
theorem r8s8 {val : Nat → Int} (h : Holds val (lenF 8 :: eqs 8)) : runL val _ h 8 (ci 8) (tabS 8) = true := by kernel_rfl
theorem d8 : DL 8 := ⟨fun val h => leaf h trivial (by kernel_rfl) (by kernel_rfl) (by kernel_rfl) (by kernel_rfl) (by kernel_rfl) (r8z h), fun val h => leaf h trivial (by kernel_rfl) (by kernel_rfl) (by kernel_rfl) (by kernel_rfl) (by kernel_rfl) (r8n h), fun val h => leaf h trivial (by kernel_rfl) (by kernel_rfl) (by kernel_rfl) (by kernel_rfl) (by kernel_rfl) (r8s1 h), fun val h => leaf h trivial (by kernel_rfl) (by kernel_rfl) (by kernel_rfl) (by kernel_rfl) (by kernel_rfl) (r8s2 h), fun val h => leaf h trivial (by kernel_rfl) (by kernel_rfl) (by kernel_rfl) (by kernel_rfl) (by kernel_rfl) (r8s4 h), fun val h => leaf h trivial (by kernel_rfl) (by kernel_rfl) (by kernel_rfl) (by kernel_rfl) (by kernel_rfl) (r8s8 h)⟩

theorem r13z {val : Nat → Int} (h : Holds val [lenF 13]) : runL val _ h 13 (a 2) tabZ = true := by kernel_rfl
theorem r13n {val : Nat → Int} (h : Holds val [lenF 13]) : runL val _ h 13 (a 2) tabN = true := by kernel_rfl
theorem r13s1 {val : Nat → Int} (h : Holds val (lenF 13 :: eqs 1)) : runL val _ h 13 (ci 1) (tabS 1) = true := by kernel_rfl
theorem r13s2 {val : Nat → Int} (h : Holds val (lenF 13 :: eqs 2)) : runL val _ h 13 (ci 2) (tabS 2) = true := by kernel_rfl
theorem r13s4 {val : Nat → Int} (h : Holds val (lenF 13 :: eqs 4)) : runL val _ h 13 (ci 4) (tabS 4) = true := by kernel_rfl
theorem r13s8 {val : Nat → Int} (h : Holds val (lenF 13 :: eqs 8)) : runL val _ h 13 (ci 8) (tabS 8) = true := by kernel_rfl
theorem d13 : DL 13 := ⟨fun val h => leaf h trivial (by kernel_rfl) (by kernel_rfl) (by kernel_rfl) (by kernel_rfl) (by kernel_rfl) (r13z h), fun val h => leaf h trivial (by kernel_rfl) (by kernel_rfl) (by kernel_rfl) (by kernel_rfl) (by kernel_rfl) (r13n h), fun val h => leaf h trivial (by kernel_rfl) (by kernel_rfl) (by kernel_rfl) (by kernel_rfl) (by kernel_rfl) (r13s1 h), fun val h => leaf h trivial (by kernel_rfl) (by kernel_rfl) (by kernel_rfl) (by kernel_rfl) (by kernel_rfl) (r13s2 h), fun val h => leaf h trivial (by kernel_rfl) (by kernel_rfl) (by kernel_rfl) (by kernel_rfl) (by kernel_rfl) (r13s4 h), fun val h => leaf h trivial (by kernel_rfl) (by kernel_rfl) (by kernel_rfl) (by kernel_rfl) (by kernel_rfl) (r13s8 h)⟩

theorem r18z {val : Nat → Int} (h : Holds val [lenF 18]) : runL val _ h 18 (a 2) tabZ = true := by kernel_rfl
theorem r18n {val : Nat → Int} (h : Holds val [lenF 18]) : runL val _ h 18 (a 2) tabN = true := by kernel_rfl
theorem r18s1 {val : Nat → Int} (h : Holds val (lenF 18 :: eqs 1)) : runL val _ h 18 (ci 1) (tabS 1) = true := by kernel_rfl
theorem r18s2 {val : Nat → Int} (h : Holds val (lenF 18 :: eqs 2)) : runL val _ h 18 (ci 2) (tabS 2) = true := by kernel_rfl
theorem r18s4 {val : Nat → Int} (h : Holds val (lenF 18 :: eqs 4)) : runL val _ h 18 (ci 4) (tabS 4) = true := by kernel_rfl
theorem r18s8 {val : Nat → Int} (h : Holds val (lenF 18 :: eqs 8)) : runL val _ h 18 (ci 8) (tabS 8) = true := by kernel_rfl
theorem d18 : DL 18 := ⟨fun val h => leaf h trivial (by kernel_rfl) (by kernel_rfl) (by kernel_rfl) (by kernel_rfl) (by kernel_rfl) (r18z h), fun val h => leaf h trivial (by kernel_rfl) (by kernel_rfl) (by kernel_rfl) (by kernel_rfl) (by kernel_rfl) (r18n h), fun val h => leaf h trivial (by kernel_rfl) (by kernel_rfl) (by kernel_rfl) (by kernel_rfl) (by kernel_rfl) (r18s1 h), fun val h => leaf h trivial (by kernel_rfl) (by kernel_rfl) (by kernel_rfl) (by kernel_rfl) (by kernel_rfl) (r18s2 h), fun val h => leaf h trivial (by kernel_rfl) (by kernel_rfl) (by kernel_rfl) (by kernel_rfl) (by kernel_rfl) (r18s4 h), fun val h => leaf h trivial (by kernel_rfl) (by kernel_rfl) (by kernel_rfl) (by kernel_rfl) (by kernel_rfl) (r18s8 h)⟩

theorem r23z {val : Nat → Int} (h : Holds val [lenF 23]) : runL val _ h 23 (a 2) tabZ = true := by kernel_rfl
theorem r23n {val : Nat → Int} (h : Holds val [lenF 23]) : runL val _ h 23 (a 2) tabN = true := by kernel_rfl
theorem r23s1 {val : Nat → Int} (h : Holds val (lenF 23 :: eqs 1)) : runL val _ h 23 (ci 1) (tabS 1) = true := by kernel_rfl
theorem r23s2 {val : Nat → Int} (h : Holds val (lenF 23 :: eqs 2)) : runL val _ h 23 (ci 2) (tabS 2) = true := by kernel_rfl
theorem r23s4 {val : Nat → Int} (h : Holds val (lenF 23 :: eqs 4)) : runL val _ h 23 (ci 4) (tabS 4) = true := by kernel_rfl
theorem r23s8 {val : Nat → Int} (h : Holds val (lenF 23 :: eqs 8)) : runL val _ h 23 (ci 8) (tabS 8) = true := by kernel_rfl
theorem d23 : DL 23 := ⟨fun val h => leaf h trivial (by kernel_rfl) (by kernel_rfl) (by kernel_rfl) (by kernel_rfl) (by kernel_rfl) (r23z h), fun val h => leaf h trivial (by kernel_rfl) (by kernel_rfl) (by kernel_rfl) (by kernel_rfl) (by kernel_rfl) (r23n h), fun val h => leaf h trivial (by kernel_rfl) (by kernel_rfl) (by kernel_rfl) (by kernel_rfl) (by kernel_rfl) (r23s1 h), fun val h => leaf h trivial (by kernel_rfl) (by kernel_rfl) (by kernel_rfl) (by kernel_rfl) (by kernel_rfl) (r23s2 h), fun val h => leaf h trivial (by kernel_rfl) (by kernel_rfl) (by kernel_rfl) (by kernel_rfl) (by kernel_rfl) (r23s4 h), fun val h => leaf h trivial (by kernel_rfl) (by kernel_rfl) (by kernel_rfl) (by kernel_rfl) (by kernel_rfl) (r23s8 h)⟩

theorem r28z {val : Nat → Int} (h : Holds val [lenF 28]) : runL val _ h 28 (a 2) tabZ = true := by kernel_rfl
theorem r28n {val : Nat → Int} (h : Holds val [lenF 28]) : runL val _ h 28 (a 2) tabN = true := by kernel_rfl
theorem r28s1 {val : Nat → Int} (h : Holds val (lenF 28 :: eqs 1)) : runL val _ h 28 (ci 1) (tabS 1) = true := by kernel_rfl
theorem r28s2 {val : Nat → Int} (h : Holds val (lenF 28 :: eqs 2)) : runL val _ h 28 (ci 2) (tabS 2) = true := by kernel_rfl
theorem r28s4 {val : Nat → Int} (h : Holds val (lenF 28 :: eqs 4)) : runL val _ h 28 (ci 4) (tabS 4) = true := by kernel_rfl
theorem r28s8 {val : Nat → Int} (h : Holds val (lenF 28 :: eqs 8)) : runL val _ h 28 (ci 8) (tabS 8) = true := by kernel_rfl
theorem d28 : DL 28 := ⟨fun val h => leaf h trivial (by kernel_rfl) (by kernel_rfl) (by kernel_rfl) (by kernel_rfl) (by kernel_rfl) (r28z h), fun val h => leaf h trivial (by kernel_rfl) (by kernel_rfl) (by kernel_rfl) (by kernel_rfl) (by kernel_rfl) (r28n h), fun val h => leaf h trivial (by kernel_rfl) (by kernel_rfl) (by kernel_rfl) (by kernel_rfl) (by kernel_rfl) (r28s1 h), fun val h => leaf h trivial (by kernel_rfl) (by kernel_rfl) (by kernel_rfl) (by kernel_rfl) (by kernel_rfl) (r28s2 h), fun val h => leaf h trivial (by kernel_rfl) (by kernel_rfl) (by kernel_rfl) (by kernel_rfl) (by kernel_rfl) (r28s4 h), fun val h => leaf h trivial (by kernel_rfl) (by kernel_rfl) (by kernel_rfl) (by kernel_rfl) (by kernel_rfl) (r28s8 h)⟩

theorem r33z {val : Nat → Int} (h : Holds val [lenF 33]) : runL val _ h 33 (a 2) tabZ = true := by kernel_rfl
theorem r33n {val : Nat → Int} (h : Holds val [lenF 33]) : runL val _ h 33 (a 2) tabN = true := by kernel_rfl
theorem r33s1 {val : Nat → Int} (h : Holds val (lenF 33 :: eqs 1)) : runL val _ h 33 (ci 1) (tabS 1) = true := by kernel_rfl
theorem r33s2 {val : Nat → Int} (h : Holds val (lenF 33 :: eqs 2)) : runL val _ h 33 (ci 2) (tabS 2) = true := by kernel_rfl
theorem r33s4 {val : Nat → Int} (h : Holds val (lenF 33 :: eqs 4)) : runL val _ h 33 (ci 4) (tabS 4) = true := by kernel_rfl
theorem r33s8 {val : Nat → Int} (h : Holds val (lenF 33 :: eqs 8)) : runL val _ h 33 (ci 8) (tabS 8) = true := by kernel_rfl
theorem d33 : DL 33 := ⟨fun val h => leaf h trivial (by kernel_rfl) (by kernel_rfl) (by kernel_rfl) (by kernel_rfl) (by kernel_rfl) (r33z h), fun val h => leaf h trivial (by kernel_rfl) (by kernel_rfl) (by kernel_rfl) (by kernel_rfl) (by kernel_rfl) (r33n h), fun val h => leaf h trivial (by kernel_rfl) (by kernel_rfl) (by kernel_rfl) (by kernel_rfl) (by kernel_rfl) (r33s1 h), fun val h => leaf h trivial (by kernel_rfl) (by kernel_rfl) (by kernel_rfl) (by kernel_rfl) (by kernel_rfl) (r33s2 h), fun val h => leaf h trivial (by kernel_rfl) (by kernel_rfl) (by kernel_rfl) (by kernel_rfl) (by kernel_rfl) (r33s4 h), fun val h => leaf h trivial (by kernel_rfl) (by kernel_rfl) (by kernel_rfl) (by kernel_rfl) (by kernel_rfl) (r33s8 h)⟩

theorem r38z {val : Nat → Int} (h : Holds val [lenF 38]) : runL val _ h 38 (a 2) tabZ = true := by kernel_rfl
theorem r38n {val : Nat → Int} (h : Holds val [lenF 38]) : runL val _ h 38 (a 2) tabN = true := by kernel_rfl
theorem r38s1 {val : Nat → Int} (h : Holds val (lenF 38 :: eqs 1)) : runL val _ h 38 (ci 1) (tabS 1) = true := by kernel_rfl
theorem r38s2 {val : Nat → Int} (h : Holds val (lenF 38 :: eqs 2)) : runL val _ h 38 (ci 2) (tabS 2) = true := by kernel_rfl
theorem r38s4 {val : Nat → Int} (h : Holds val (lenF 38 :: eqs 4)) : runL val _ h 38 (ci 4) (tabS 4) = true := by kernel_rfl
theorem r38s8 {val : Nat → Int} (h : Holds val (lenF 38 :: eqs 8)) : runL val _ h 38 (ci 8) (tabS 8) = true := by kernel_rfl
theorem d38 : DL 38 := ⟨fun val h => leaf h trivial (by kernel_rfl) (by kernel_rfl) (by kernel_rfl) (by kernel_rfl) (by kernel_rfl) (r38z h), fun val h => leaf h trivial (by kernel_rfl) (by kernel_rfl) (by kernel_rfl) (by kernel_rfl) (by kernel_rfl) (r38n h), fun val h => leaf h trivial (by kernel_rfl) (by kernel_rfl) (by kernel_rfl) (by kernel_rfl) (by kernel_rfl) (r38s1 h), fun val h => leaf h trivial (by kernel_rfl) (by kernel_rfl) (by kernel_rfl) (by kernel_rfl) (by kernel_rfl) (r38s2 h), fun val h => leaf h trivial (by kernel_rfl) (by kernel_rfl) (by kernel_rfl) (by kernel_rfl) (by kernel_rfl) (r38s4 h), fun val h => leaf h trivial (by kernel_rfl) (by kernel_rfl) (by kernel_rfl) (by kernel_rfl) (by kernel_rfl) (r38s8 h)⟩

theorem r43z {val : Nat → Int} (h : Holds val [lenF 43]) : runL val _ h 43 (a 2) tabZ = true := by kernel_rfl
theorem r43n {val : Nat → Int} (h : Holds val [lenF 43]) : runL val _ h 43 (a 2) tabN = true := by kernel_rfl
theorem r43s1 {val : Nat → Int} (h : Holds val (lenF 43 :: eqs 1)) : runL val _ h 43 (ci 1) (tabS 1) = true := by kernel_rfl
theorem r43s2 {val : Nat → Int} (h : Holds val (lenF 43 :: eqs 2)) : runL val _ h 43 (ci 2) (tabS 2) = true := by kernel_rfl
theorem r43s4 {val : Nat → Int} (h : Holds val (lenF 43 :: eqs 4)) : runL val _ h 43 (ci 4) (tabS 4) = true := by kernel_rfl
theorem r43s8 {val : Nat → Int} (h : Holds val (lenF 43 :: eqs 8)) : runL val _ h 43 (ci 8) (tabS 8) = true := by kernel_rfl
theorem d43 : DL 43 := ⟨fun val h => leaf h trivial (by kernel_rfl) (by kernel_rfl) (by kernel_rfl) (by kernel_rfl) (by kernel_rfl) (r43z h), fun val h => leaf h trivial (by kernel_rfl) (by kernel_rfl) (by kernel_rfl) (by kernel_rfl) (by kernel_rfl) (r43n h), fun val h => leaf h trivial (by kernel_rfl) (by kernel_rfl) (by kernel_rfl) (by kernel_rfl) (by kernel_rfl) (r43s1 h), fun val h => leaf h trivial (by kernel_rfl) (by kernel_rfl) (by kernel_rfl) (by kernel_rfl) (by kernel_rfl) (r43s2 h), fun val h => leaf h trivial (by kernel_rfl) (by kernel_rfl) (by kernel_rfl) (by kernel_rfl) (by kernel_rfl) (r43s4 h), fun val h => leaf h trivial (by kernel_rfl) (by kernel_rfl) (by kernel_rfl) (by kernel_rfl) (by kernel_rfl) (r43s8 h)⟩

theorem r48z {val : Nat → Int} (h : Holds val [lenF 48]) : runL val _ h 48 (a 2) tabZ = true := by kernel_rfl
theorem r48n {val : Nat → Int} (h : Holds val [lenF 48]) : runL val _ h 48 (a 2) tabN = true := by kernel_rfl
theorem r48s1 {val : Nat → Int} (h : Holds val (lenF 48 :: eqs 1)) : runL val _ h 48 (ci 1) (tabS 1) = true := by kernel_rfl
theorem r48s2 {val : Nat → Int} (h : Holds val (lenF 48 :: eqs 2)) : runL val _ h 48 (ci 2) (tabS 2) = true := by kernel_rfl
theorem r48s4 {val : Nat → Int} (h : Holds val (lenF 48 :: eqs 4)) : runL val _ h 48 (ci 4) (tabS 4) = true := by kernel_rfl
theorem r48s8 {val : Nat → Int} (h : Holds val (lenF 48 :: eqs 8)) : runL val _ h 48 (ci 8) (tabS 8) = true := by kernel_rfl
theorem d48 : DL 48 := ⟨fun val h => leaf h trivial (by kernel_rfl) (by kernel_rfl) (by kernel_rfl) (by kernel_rfl) (by kernel_rfl) (r48z h), fun val h => leaf h trivial (by kernel_rfl) (by kernel_rfl) (by kernel_rfl) (by kernel_rfl) (by kernel_rfl) (r48n h), fun val h => leaf h trivial (by kernel_rfl) (by kernel_rfl) (by kernel_rfl) (by kernel_rfl) (by kernel_rfl) (r48s1 h), fun val h => leaf h trivial (by kernel_rfl) (by kernel_rfl) (by kernel_rfl) (by kernel_rfl) (by kernel_rfl) (r48s2 h), fun val h => leaf h trivial (by kernel_rfl) (by kernel_rfl) (by kernel_rfl) (by kernel_rfl) (by kernel_rfl) (r48s4 h), fun val h => leaf h trivial (by kernel_rfl) (by kernel_rfl) (by kernel_rfl) (by kernel_rfl) (by kernel_rfl) (r48s8 h)⟩

theorem r53z {val : Nat → Int} (h : Holds val [lenF 53]) : runL val _ h 53 (a 2) tabZ = true := by kernel_rfl
theorem r53n {val : Nat → Int} (h : Holds val [lenF 53]) : runL val _ h 53 (a 2) tabN = true := by kernel_rfl
theorem r53s1 {val : Nat → Int} (h : Holds val (lenF 53 :: eqs 1)) : runL val _ h 53 (ci 1) (tabS 1) = true := by kernel_rfl
theorem r53s2 {val : Nat → Int} (h : Holds val (lenF 53 :: eqs 2)) : runL val _ h 53 (ci 2) (tabS 2) = true := by kernel_rfl
theorem r53s4 {val : Nat → Int} (h : Holds val (lenF 53 :: eqs 4)) : runL val _ h 53 (ci 4) (tabS 4) = true := by kernel_rfl
theorem r53s8 {val : Nat → Int} (h : Holds val (lenF 53 :: eqs 8)) : runL val _ h 53 (ci 8) (tabS 8) = true := by kernel_rfl
theorem d53 : DL 53 := ⟨fun val h => leaf h trivial (by kernel_rfl) (by kernel_rfl) (by kernel_rfl) (by kernel_rfl) (by kernel_rfl) (r53z h), fun val h => leaf h trivial (by kernel_rfl) (by kernel_rfl) (by kernel_rfl) (by kernel_rfl) (by kernel_rfl) (r53n h), fun val h => leaf h trivial (by kernel_rfl) (by kernel_rfl) (by kernel_rfl) (by kernel_rfl) (by kernel_rfl) (r53s1 h), fun val h => leaf h trivial (by kernel_rfl) (by kernel_rfl) (by kernel_rfl) (by kernel_rfl) (by kernel_rfl) (r53s2 h), fun val h => leaf h trivial (by kernel_rfl) (by kernel_rfl) (by kernel_rfl) (by kernel_rfl) (by kernel_rfl) (r53s4 h), fun val h => leaf h trivial (by kernel_rfl) (by kernel_rfl) (by kernel_rfl) (by kernel_rfl) (by kernel_rfl) (r53s8 h)⟩

theorem r58z {val : Nat → Int} (h : Holds val [lenF 58]) : runL val _ h 58 (a 2) tabZ = true := by kernel_rfl
theorem r58n {val : Nat → Int} (h : Holds val [lenF 58]) : runL val _ h 58 (a 2) tabN = true := by kernel_rfl
theorem r58s1 {val : Nat → Int} (h : Holds val (lenF 58 :: eqs 1)) : runL val _ h 58 (ci 1) (tabS 1) = true := by kernel_rfl
theorem r58s2 {val : Nat → Int} (h : Holds val (lenF 58 :: eqs 2)) : runL val _ h 58 (ci 2) (tabS 2) = true := by kernel_rfl
theorem r58s4 {val : Nat → Int} (h : Holds val (lenF 58 :: eqs 4)) : runL val _ h 58 (ci 4) (tabS 4) = true := by kernel_rfl
theorem r58s8 {val : Nat → Int} (h : Holds val (lenF 58 :: eqs 8)) : runL val _ h 58 (ci 8) (tabS 8) = true := by kernel_rfl
theorem d58 : DL 58 := ⟨fun val h => leaf h trivial (by kernel_rfl) (by kernel_rfl) (by kernel_rfl) (by kernel_rfl) (by kernel_rfl) (r58z h), fun val h => leaf h trivial (by kernel_rfl) (by kernel_rfl) (by kernel_rfl) (by kernel_rfl) (by kernel_rfl) (r58n h), fun val h => leaf h trivial (by kernel_rfl) (by kernel_rfl) (by kernel_rfl) (by kernel_rfl) (by kernel_rfl) (r58s1 h), fun val h => leaf h trivial (by kernel_rfl) (by kernel_rfl) (by kernel_rfl) (by kernel_rfl) (by kernel_rfl) (r58s2 h), fun val h => leaf h trivial (by kernel_rfl) (by kernel_rfl) (by kernel_rfl) (by kernel_rfl) (by kernel_rfl) (r58s4 h), fun val h => leaf h trivial (by kernel_rfl) (by kernel_rfl) (by kernel_rfl) (by kernel_rfl) (by kernel_rfl) (r58s8 h)⟩

theorem r63z {val : Nat → Int} (h : Holds val [lenF 63]) : runL val _ h 63 (a 2) tabZ = true := by kernel_rfl
theorem r63n {val : Nat → Int} (h : Holds val [lenF 63]) : runL val _ h 63 (a 2) tabN = true := by kernel_rfl
theorem r63s1 {val : Nat → Int} (h : Holds val (lenF 63 :: eqs 1)) : runL val _ h 63 (ci 1) (tabS 1) = true := by kernel_rfl
theorem r63s2 {val : Nat → Int} (h : Holds val (lenF 63 :: eqs 2)) : runL val _ h 63 (ci 2) (tabS 2) = true := by kernel_rfl
theorem r63s4 {val : Nat → Int} (h : Holds val (lenF 63 :: eqs 4)) : runL val _ h 63 (ci 4) (tabS 4) = true := by kernel_rfl
theorem r63s8 {val : Nat → Int} (h : Holds val (lenF 63 :: eqs 8)) : runL val _ h 63 (ci 8) (tabS 8) = true := by kernel_rfl
theorem d63 : DL 63 := ⟨fun val h => leaf h trivial (by kernel_rfl) (by kernel_rfl) (by kernel_rfl) (by kernel_rfl) (by kernel_rfl) (r63z h), fun val h => leaf h trivial (by kernel_rfl) (by kernel_rfl) (by kernel_rfl) (by kernel_rfl) (by kernel_rfl) (r63n h), fun val h => leaf h trivial (by kernel_rfl) (by kernel_rfl) (by kernel_rfl) (by kernel_rfl) (by kernel_rfl) (r63s1 h), fun val h => leaf h trivial (by kernel_rfl) (by kernel_rfl) (by kernel_rfl) (by kernel_rfl) (by kernel_rfl) (r63s2 h), fun val h => leaf h trivial (by kernel_rfl) (by kernel_rfl) (by kernel_rfl) (by kernel_rfl) (by kernel_rfl) (r63s4 h), fun val h => leaf h trivial (by kernel_rfl) (by kernel_rfl) (by kernel_rfl) (by kernel_rfl) (by kernel_rfl) (r63s8 h)⟩

theorem r68z {val : Nat → Int} (h : Holds val [lenF 68]) : runL val _ h 68 (a 2) tabZ = true := by kernel_rfl
theorem r68n {val : Nat → Int} (h : Holds val [lenF 68]) : runL val _ h 68 (a 2) tabN = true := by kernel_rfl
theorem r68s1 {val : Nat → Int} (h : Holds val (lenF 68 :: eqs 1)) : runL val _ h 68 (ci 1) (tabS 1) = true := by kernel_rfl
theorem r68s2 {val : Nat → Int} (h : Holds val (lenF 68 :: eqs 2)) : runL val _ h 68 (ci 2) (tabS 2) = true := by kernel_rfl
theorem r68s4 {val : Nat → Int} (h : Holds val (lenF 68 :: eqs 4)) : runL val _ h 68 (ci 4) (tabS 4) = true := by kernel_rfl
theorem r68s8 {val : Nat → Int} (h : Holds val (lenF 68 :: eqs 8)) : runL val _ h 68 (ci 8) (tabS 8) = true := by kernel_rfl
theorem d68 : DL 68 := ⟨fun val h => leaf h trivial (by kernel_rfl) (by kernel_rfl) (by kernel_rfl) (by kernel_rfl) (by kernel_rfl) (r68z h), fun val h => leaf h trivial (by kernel_rfl) (by kernel_rfl) (by kernel_rfl) (by kernel_rfl) (by kernel_rfl) (r68n h), fun val h => leaf h trivial (by kernel_rfl) (by kernel_rfl) (by kernel_rfl) (by kernel_rfl) (by kernel_rfl) (r68s1 h), fun val h => leaf h trivial (by kernel_rfl) (by kernel_rfl) (by kernel_rfl) (by kernel_rfl) (by kernel_rfl) (r68s2 h), fun val h => leaf h trivial (by kernel_rfl) (by kernel_rfl) (by kernel_rfl) (by kernel_rfl) (by kernel_rfl) (r68s4 h), fun val h => leaf h trivial (by kernel_rfl) (by kernel_rfl) (by kernel_rfl) (by kernel_rfl) (by kernel_rfl) (r68s8 h)⟩

theorem r73z {val : Nat → Int} (h : Holds val [lenF 73]) : runL val _ h 73 (a 2) tabZ = true := by kernel_rfl
theorem r73n {val : Nat → Int} (h : Holds val [lenF 73]) : runL val _ h 73 (a 2) tabN = true := by kernel_rfl
theorem r73s1 {val : Nat → Int} (h : Holds val (lenF 73 :: eqs 1)) : runL val _ h 73 (ci 1) (tabS 1) = true := by kernel_rfl
theorem r73s2 {val : Nat → Int} (h : Holds val (lenF 73 :: eqs 2)) : runL val _ h 73 (ci 2) (tabS 2) = true := by kernel_rfl
theorem r73s4 {val : Nat → Int} (h : Holds val (lenF 73 :: eqs 4)) : runL val _ h 73 (ci 4) (tabS 4) = true := by kernel_rfl
theorem r73s8 {val : Nat → Int} (h : Holds val (lenF 73 :: eqs 8)) : runL val _ h 73 (ci 8) (tabS 8) = true := by kernel_rfl
theorem d73 : DL 73 := ⟨fun val h => leaf h trivial (by kernel_rfl) (by kernel_rfl) (by kernel_rfl) (by kernel_rfl) (by kernel_rfl) (r73z h), fun val h => leaf h trivial (by kernel_rfl) (by kernel_rfl) (by kernel_rfl) (by kernel_rfl) (by kernel_rfl) (r73n h), fun val h => leaf h trivial (by kernel_rfl) (by kernel_rfl) (by kernel_rfl) (by kernel_rfl) (by kernel_rfl) (r73s1 h), fun val h => leaf h trivial (by kernel_rfl) (by kernel_rfl) (by kernel_rfl) (by kernel_rfl) (by kernel_rfl) (r73s2 h), fun val h => leaf h trivial (by kernel_rfl) (by kernel_rfl) (by kernel_rfl) (by kernel_rfl) (by kernel_rfl) (r73s4 h), fun val h => leaf h trivial (by kernel_rfl) (by kernel_rfl) (by kernel_rfl) (by kernel_rfl) (by kernel_rfl) (r73s8 h)⟩

theorem r78z {val : Nat → Int} (h : Holds val [lenF 78]) : runL val _ h 78 (a 2) tabZ = true := by kernel_rfl
theorem r78n {val : Nat → Int} (h : Holds val [lenF 78]) : runL val _ h 78 (a 2) tabN = true := by kernel_rfl
theorem r78s1 {val : Nat → Int} (h : Holds val (lenF 78 :: eqs 1)) : runL val _ h 78 (ci 1) (tabS 1) = true := by kernel_rfl
theorem r78s2 {val : Nat → Int} (h : Holds val (lenF 78 :: eqs 2)) : runL val _ h 78 (ci 2) (tabS 2) = true := by kernel_rfl
theorem r78s4 {val : Nat → Int} (h : Holds val (lenF 78 :: eqs 4)) : runL val _ h 78 (ci 4) (tabS 4) = true := by kernel_rfl
theorem r78s8 {val : Nat → Int} (h : Holds val (lenF 78 :: eqs 8)) : runL val _ h 78 (ci 8) (tabS 8) = true := by kernel_rfl
theorem d78 : DL 78 := ⟨fun val h => leaf h trivial (by kernel_rfl) (by kernel_rfl) (by kernel_rfl) (by kernel_rfl) (by kernel_rfl) (r78z h), fun val h => leaf h trivial (by kernel_rfl) (by kernel_rfl) (by kernel_rfl) (by kernel_rfl) (by kernel_rfl) (r78n h), fun val h => leaf h trivial (by kernel_rfl) (by kernel_rfl) (by kernel_rfl) (by kernel_rfl) (by kernel_rfl) (r78s1 h), fun val h => leaf h trivial (by kernel_rfl) (by kernel_rfl) (by kernel_rfl) (by kernel_rfl) (by kernel_rfl) (r78s2 h), fun val h => leaf h trivial (by kernel_rfl) (by kernel_rfl) (by kernel_rfl) (by kernel_rfl) (by kernel_rfl) (r78s4 h), fun val h => leaf h trivial (by kernel_rfl) (by kernel_rfl) (by kernel_rfl) (by kernel_rfl) (by kernel_rfl) (r78s8 h)⟩

theorem r83z {val : Nat → Int} (h : Holds val [lenF 83]) : runL val _ h 83 (a 2) tabZ = true := by kernel_rfl
theorem r83n {val : Nat → Int} (h : Holds val [lenF 83]) : runL val _ h 83 (a 2) tabN = true := by kernel_rfl
theorem r83s1 {val : Nat → Int} (h : Holds val (lenF 83 :: eqs 1)) : runL val _ h 83 (ci 1) (tabS 1) = true := by kernel_rfl
theorem r83s2 {val : Nat → Int} (h : Holds val (lenF 83 :: eqs 2)) : runL val _ h 83 (ci 2) (tabS 2) = true := by kernel_rfl
theorem r83s4 {val : Nat → Int} (h : Holds val (lenF 83 :: eqs 4)) : runL val _ h 83 (ci 4) (tabS 4) = true := by kernel_rfl
theorem r83s8 {val : Nat → Int} (h : Holds val (lenF 83 :: eqs 8)) : runL val _ h 83 (ci 8) (tabS 8) = true := by kernel_rfl
theorem d83 : DL 83 := ⟨fun val h => leaf h trivial (by kernel_rfl) (by kernel_rfl) (by kernel_rfl) (by kernel_rfl) (by kernel_rfl) (r83z h), fun val h => leaf h trivial (by kernel_rfl) (by kernel_rfl) (by kernel_rfl) (by kernel_rfl) (by kernel_rfl) (r83n h), fun val h => leaf h trivial (by kernel_rfl) (by kernel_rfl) (by kernel_rfl) (by kernel_rfl) (by kernel_rfl) (r83s1 h), fun val h => leaf h trivial (by kernel_rfl) (by kernel_rfl) (by kernel_rfl) (by kernel_rfl) (by kernel_rfl) (r83s2 h), fun val h => leaf h trivial (by kernel_rfl) (by kernel_rfl) (by kernel_rfl) (by kernel_rfl) (by kernel_rfl) (r83s4 h), fun val h => leaf h trivial (by kernel_rfl) (by kernel_rfl) (by kernel_rfl) (by kernel_rfl) (by kernel_rfl) (r83s8 h)⟩

theorem r88z {val : Nat → Int} (h : Holds val [lenF 88]) : runL val _ h 88 (a 2) tabZ = true := by kernel_rfl
theorem r88n {val : Nat → Int} (h : Holds val [lenF 88]) : runL val _ h 88 (a 2) tabN = true := by kernel_rfl
theorem r88s1 {val : Nat → Int} (h : Holds val (lenF 88 :: eqs 1)) : runL val _ h 88 (ci 1) (tabS 1) = true := by kernel_rfl
theorem r88s2 {val : Nat → Int} (h : Holds val (lenF 88 :: eqs 2)) : runL val _ h 88 (ci 2) (tabS 2) = true := by kernel_rfl
theorem r88s4 {val : Nat → Int} (h : Holds val (lenF 88 :: eqs 4)) : runL val _ h 88 (ci 4) (tabS 4) = true := by kernel_rfl
theorem r88s8 {val : Nat → Int} (h : Holds val (lenF 88 :: eqs 8)) : runL val _ h 88 (ci 8) (tabS 8) = true := by kernel_rfl
theorem d88 : DL 88 := ⟨fun val h => leaf h trivial (by kernel_rfl) (by kernel_rfl) (by kernel_rfl) (by kernel_rfl) (by kernel_rfl) (r88z h), fun val h => leaf h trivial (by kernel_rfl) (by kernel_rfl) (by kernel_rfl) (by kernel_rfl) (by kernel_rfl) (r88n h), fun val h => leaf h trivial (by kernel_rfl) (by kernel_rfl) (by kernel_rfl) (by kernel_rfl) (by kernel_rfl) (r88s1 h), fun val h => leaf h trivial (by kernel_rfl) (by kernel_rfl) (by kernel_rfl) (by kernel_rfl) (by kernel_rfl) (r88s2 h), fun val h => leaf h trivial (by kernel_rfl) (by kernel_rfl) (by kernel_rfl) (by kernel_rfl) (by kernel_rfl) (r88s4 h), fun val h => leaf h trivial (by kernel_rfl) (by kernel_rfl) (by kernel_rfl) (by kernel_rfl) (by kernel_rfl) (r88s8 h)⟩

theorem r93z {val : Nat → Int} (h : Holds val [lenF 93]) : runL val _ h 93 (a 2) tabZ = true := by kernel_rfl
theorem r93n {val : Nat → Int} (h : Holds val [lenF 93]) : runL val _ h 93 (a 2) tabN = true := by kernel_rfl
theorem r93s1 {val : Nat → Int} (h : Holds val (lenF 93 :: eqs 1)) : runL val _ h 93 (ci 1) (tabS 1) = true := by kernel_rfl
theorem r93s2 {val : Nat → Int} (h : Holds val (lenF 93 :: eqs 2)) : runL val _ h 93 (ci 2) (tabS 2) = true := by kernel_rfl
theorem r93s4 {val : Nat → Int} (h : Holds val (lenF 93 :: eqs 4)) : runL val _ h 93 (ci 4) (tabS 4) = true := by kernel_rfl
theorem r93s8 {val : Nat → Int} (h : Holds val (lenF 93 :: eqs 8)) : runL val _ h 93 (ci 8) (tabS 8) = true := by kernel_rfl
theorem d93 : DL 93 := ⟨fun val h => leaf h trivial (by kernel_rfl) (by kernel_rfl) (by kernel_rfl) (by kernel_rfl) (by kernel_rfl) (r93z h), fun val h => leaf h trivial (by kernel_rfl) (by kernel_rfl) (by kernel_rfl) (by kernel_rfl) (by kernel_rfl) (r93n h), fun val h => leaf h trivial (by kernel_rfl) (by kernel_rfl) (by kernel_rfl) (by kernel_rfl) (by kernel_rfl) (r93s1 h), fun val h => leaf h trivial (by kernel_rfl) (by kernel_rfl) (by kernel_rfl) (by kernel_rfl) (by kernel_rfl) (r93s2 h), fun val h => leaf h trivial (by kernel_rfl) (by kernel_rfl) (by kernel_rfl) (by kernel_rfl) (by kernel_rfl) (r93s4 h), fun val h => leaf h trivial (by kernel_rfl) (by kernel_rfl) (by kernel_rfl) (by kernel_rfl) (by kernel_rfl) (r93s8 h)⟩

theorem r98z {val : Nat → Int} (h : Holds val [lenF 98]) : runL val _ h 98 (a 2) tabZ = true := by kernel_rfl
theorem r98n {val : Nat → Int} (h : Holds val [lenF 98]) : runL val _ h 98 (a 2) tabN = true := by kernel_rfl
theorem r98s1 {val : Nat → Int} (h : Holds val (lenF 98 :: eqs 1)) : runL val _ h 98 (ci 1) (tabS 1) = true := by kernel_rfl
theorem r98s2 {val : Nat → Int} (h : Holds val (lenF 98 :: eqs 2)) : runL val _ h 98 (ci 2) (tabS 2) = true := by kernel_rfl
theorem r98s4 {val : Nat → Int} (h : Holds val (lenF 98 :: eqs 4)) : runL val _ h 98 (ci 4) (tabS 4) = true := by kernel_rfl
theorem r98s8 {val : Nat → Int} (h : Holds val (lenF 98 :: eqs 8)) : runL val _ h 98 (ci 8) (tabS 8) = true := by kernel_rfl
theorem d98 : DL 98 := ⟨fun val h => leaf h trivial (by kernel_rfl) (by kernel_rfl) (by kernel_rfl) (by kernel_rfl) (by kernel_rfl) (r98z h), fun val h => leaf h trivial (by kernel_rfl) (by kernel_rfl) (by kernel_rfl) (by kernel_rfl) (by kernel_rfl) (r98n h), fun val h => leaf h trivial (by kernel_rfl) (by kernel_rfl) (by kernel_rfl) (by kernel_rfl) (by kernel_rfl) (r98s1 h), fun val h => leaf h trivial (by kernel_rfl) (by kernel_rfl) (by kernel_rfl) (by kernel_rfl) (by kernel_rfl) (r98s2 h), fun val h => leaf h trivial (by kernel_rfl) (by kernel_rfl) (by kernel_rfl) (by kernel_rfl) (by kernel_rfl) (r98s4 h), fun val h => leaf h trivial (by kernel_rfl) (by kernel_rfl) (by kernel_rfl) (by kernel_rfl) (by kernel_rfl) (r98s8 h)⟩

end Go.Proofs.Ytclgmeoofmidfaa.TellsL
