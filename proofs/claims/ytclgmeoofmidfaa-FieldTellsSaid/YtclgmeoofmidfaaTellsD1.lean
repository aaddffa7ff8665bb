/-
  The law 'FieldTells', by lengths: each way, run.
-/
import Derived.Test.YtclgmeoofmidfaaTellsH
namespace Go.Proofs.Ytclgmeoofmidfaa.TellsL
open Go.Sim Go.Proofs.Ytclgmeoofmidfaa.Fld
set_option maxRecDepth 100000

theorem r5z {val : Nat → Int} (h : Holds val [lenF 5]) : runL val _ h 5 (a 2) tabZ = true := by kernel_rfl
theorem r5n {val : Nat → Int} (h : Holds val [lenF 5]) : runL val _ h 5 (a 2) tabN = true := by kernel_rfl
theorem r5s1 {val : Nat → Int} (h : Holds val (lenF 5 :: eqs 1)) : runL val _ h 5 (ci 1) (tabS 1) = true := by kernel_rfl
theorem r5s2 {val : Nat → Int} (h : Holds val (lenF 5 :: eqs 2)) : runL val _ h 5 (ci 2) (tabS 2) = true := by kernel_rfl
theorem r5s4 {val : Nat → Int} (h : Holds val (lenF 5 :: eqs 4)) : runL val _ h 5 (ci 4) (tabS 4) = true := by kernel_rfl
theorem r5s8 {val : Nat → Int} (h : Holds val (lenF 5 :: eqs 8)) : runL val _ h 5 (ci 8) (tabS 8) = true := by kernel_rfl
theorem d5 : DL 5 := ⟨fun val h => leaf h trivial (by kernel_rfl) (by kernel_rfl) (by kernel_rfl) (by kernel_rfl) (by kernel_rfl) (r5z h), fun val h => leaf h trivial (by kernel_rfl) (by kernel_rfl) (by kernel_rfl) (by kernel_rfl) (by kernel_rfl) (r5n h), fun val h => leaf h trivial (by kernel_rfl) (by kernel_rfl) (by kernel_rfl) (by kernel_rfl) (by kernel_rfl) (r5s1 h), fun val h => leaf h trivial (by kernel_rfl) (by kernel_rfl) (by kernel_rfl) (by kernel_rfl) (by kernel_rfl) (r5s2 h), fun val h => leaf h trivial (by kernel_rfl) (by kernel_rfl) (by kernel_rfl) (by kernel_rfl) (by kernel_rfl) (r5s4 h), fun val h => leaf h trivial (by kernel_rfl) (by kernel_rfl) (by kernel_rfl) (by kernel_rfl) (by kernel_rfl) (r5s8 h)⟩

theorem r10z {val : Nat → Int} (h : Holds val [lenF 10]) : runL val _ h 10 (a 2) tabZ = true := by kernel_rfl
theorem r10n {val : Nat → Int} (h : Holds val [lenF 10]) : runL val _ h 10 (a 2) tabN = true := by kernel_rfl
theorem r10s1 {val : Nat → Int} (h : Holds val (lenF 10 :: eqs 1)) : runL val _ h 10 (ci 1) (tabS 1) = true := by kernel_rfl
theorem r10s2 {val : Nat → Int} (h : Holds val (lenF 10 :: eqs 2)) : runL val _ h 10 (ci 2) (tabS 2) = true := by kernel_rfl
theorem r10s4 {val : Nat → Int} (h : Holds val (lenF 10 :: eqs 4)) : runL val _ h 10 (ci 4) (tabS 4) = true := by kernel_rfl
theorem r10s8 {val : Nat → Int} (h : Holds val (lenF 10 :: eqs 8)) : runL val _ h 10 (ci 8) (tabS 8) = true := by kernel_rfl
theorem d10 : DL 10 := ⟨fun val h => leaf h trivial (by kernel_rfl) (by kernel_rfl) (by kernel_rfl) (by kernel_rfl) (by kernel_rfl) (r10z h), fun val h => leaf h trivial (by kernel_rfl) (by kernel_rfl) (by kernel_rfl) (by kernel_rfl) (by kernel_rfl) (r10n h), fun val h => leaf h trivial (by kernel_rfl) (by kernel_rfl) (by kernel_rfl) (by kernel_rfl) (by kernel_rfl) (r10s1 h), fun val h => leaf h trivial (by kernel_rfl) (by kernel_rfl) (by kernel_rfl) (by kernel_rfl) (by kernel_rfl) (r10s2 h), fun val h => leaf h trivial (by kernel_rfl) (by kernel_rfl) (by kernel_rfl) (by kernel_rfl) (by kernel_rfl) (r10s4 h), fun val h => leaf h trivial (by kernel_rfl) (by kernel_rfl) (by kernel_rfl) (by kernel_rfl) (by kernel_rfl) (r10s8 h)⟩

theorem r15z {val : Nat → Int} (h : Holds val [lenF 15]) : runL val _ h 15 (a 2) tabZ = true := by kernel_rfl
theorem r15n {val : Nat → Int} (h : Holds val [lenF 15]) : runL val _ h 15 (a 2) tabN = true := by kernel_rfl
theorem r15s1 {val : Nat → Int} (h : Holds val (lenF 15 :: eqs 1)) : runL val _ h 15 (ci 1) (tabS 1) = true := by kernel_rfl
theorem r15s2 {val : Nat → Int} (h : Holds val (lenF 15 :: eqs 2)) : runL val _ h 15 (ci 2) (tabS 2) = true := by kernel_rfl
theorem r15s4 {val : Nat → Int} (h : Holds val (lenF 15 :: eqs 4)) : runL val _ h 15 (ci 4) (tabS 4) = true := by kernel_rfl
theorem r15s8 {val : Nat → Int} (h : Holds val (lenF 15 :: eqs 8)) : runL val _ h 15 (ci 8) (tabS 8) = true := by kernel_rfl
theorem d15 : DL 15 := ⟨fun val h => leaf h trivial (by kernel_rfl) (by kernel_rfl) (by kernel_rfl) (by kernel_rfl) (by kernel_rfl) (r15z h), fun val h => leaf h trivial (by kernel_rfl) (by kernel_rfl) (by kernel_rfl) (by kernel_rfl) (by kernel_rfl) (r15n h), fun val h => leaf h trivial (by kernel_rfl) (by kernel_rfl) (by kernel_rfl) (by kernel_rfl) (by kernel_rfl) (r15s1 h), fun val h => leaf h trivial (by kernel_rfl) (by kernel_rfl) (by kernel_rfl) (by kernel_rfl) (by kernel_rfl) (r15s2 h), fun val h => leaf h trivial (by kernel_rfl) (by kernel_rfl) (by kernel_rfl) (by kernel_rfl) (by kernel_rfl) (r15s4 h), fun val h => leaf h trivial (by kernel_rfl) (by kernel_rfl) (by kernel_rfl) (by kernel_rfl) (by kernel_rfl) (r15s8 h)⟩

theorem r20z {val : Nat → Int} (h : Holds val [lenF 20]) : runL val _ h 20 (a 2) tabZ = true := by kernel_rfl
theorem r20n {val : Nat → Int} (h : Holds val [lenF 20]) : runL val _ h 20 (a 2) tabN = true := by kernel_rfl
theorem r20s1 {val : Nat → Int} (h : Holds val (lenF 20 :: eqs 1)) : runL val _ h 20 (ci 1) (tabS 1) = true := by kernel_rfl
theorem r20s2 {val : Nat → Int} (h : Holds val (lenF 20 :: eqs 2)) : runL val _ h 20 (ci 2) (tabS 2) = true := by kernel_rfl
theorem r20s4 {val : Nat → Int} (h : Holds val (lenF 20 :: eqs 4)) : runL val _ h 20 (ci 4) (tabS 4) = true := by kernel_rfl
theorem r20s8 {val : Nat → Int} (h : Holds val (lenF 20 :: eqs 8)) : runL val _ h 20 (ci 8) (tabS 8) = true := by kernel_rfl
theorem d20 : DL 20 := ⟨fun val h => leaf h trivial (by kernel_rfl) (by kernel_rfl) (by kernel_rfl) (by kernel_rfl) (by kernel_rfl) (r20z h), fun val h => leaf h trivial (by kernel_rfl) (by kernel_rfl) (by kernel_rfl) (by kernel_rfl) (by kernel_rfl) (r20n h), fun val h => leaf h trivial (by kernel_rfl) (by kernel_rfl) (by kernel_rfl) (by kernel_rfl) (by kernel_rfl) (r20s1 h), fun val h => leaf h trivial (by kernel_rfl) (by kernel_rfl) (by kernel_rfl) (by kernel_rfl) (by kernel_rfl) (r20s2 h), fun val h => leaf h trivial (by kernel_rfl) (by kernel_rfl) (by kernel_rfl) (by kernel_rfl) (by kernel_rfl) (r20s4 h), fun val h => leaf h trivial (by kernel_rfl) (by kernel_rfl) (by kernel_rfl) (by kernel_rfl) (by kernel_rfl) (r20s8 h)⟩

theorem r25z {val : Nat → Int} (h : Holds val [lenF 25]) : runL val _ h 25 (a 2) tabZ = true := by kernel_rfl
theorem r25n {val : Nat → Int} (h : Holds val [lenF 25]) : runL val _ h 25 (a 2) tabN = true := by kernel_rfl
theorem r25s1 {val : Nat → Int} (h : Holds val (lenF 25 :: eqs 1)) : runL val _ h 25 (ci 1) (tabS 1) = true := by kernel_rfl
theorem r25s2 {val : Nat → Int} (h : Holds val (lenF 25 :: eqs 2)) : runL val _ h 25 (ci 2) (tabS 2) = true := by kernel_rfl
theorem r25s4 {val : Nat → Int} (h : Holds val (lenF 25 :: eqs 4)) : runL val _ h 25 (ci 4) (tabS 4) = true := by kernel_rfl
theorem r25s8 {val : Nat → Int} (h : Holds val (lenF 25 :: eqs 8)) : runL val _ h 25 (ci 8) (tabS 8) = true := by kernel_rfl
theorem d25 : DL 25 := ⟨fun val h => leaf h trivial (by kernel_rfl) (by kernel_rfl) (by kernel_rfl) (by kernel_rfl) (by kernel_rfl) (r25z h), fun val h => leaf h trivial (by kernel_rfl) (by kernel_rfl) (by kernel_rfl) (by kernel_rfl) (by kernel_rfl) (r25n h), fun val h => leaf h trivial (by kernel_rfl) (by kernel_rfl) (by kernel_rfl) (by kernel_rfl) (by kernel_rfl) (r25s1 h), fun val h => leaf h trivial (by kernel_rfl) (by kernel_rfl) (by kernel_rfl) (by kernel_rfl) (by kernel_rfl) (r25s2 h), fun val h => leaf h trivial (by kernel_rfl) (by kernel_rfl) (by kernel_rfl) (by kernel_rfl) (by kernel_rfl) (r25s4 h), fun val h => leaf h trivial (by kernel_rfl) (by kernel_rfl) (by kernel_rfl) (by kernel_rfl) (by kernel_rfl) (r25s8 h)⟩

theorem r30z {val : Nat → Int} (h : Holds val [lenF 30]) : runL val _ h 30 (a 2) tabZ = true := by kernel_rfl
theorem r30n {val : Nat → Int} (h : Holds val [lenF 30]) : runL val _ h 30 (a 2) tabN = true := by kernel_rfl
theorem r30s1 {val : Nat → Int} (h : Holds val (lenF 30 :: eqs 1)) : runL val _ h 30 (ci 1) (tabS 1) = true := by kernel_rfl
theorem r30s2 {val : Nat → Int} (h : Holds val (lenF 30 :: eqs 2)) : runL val _ h 30 (ci 2) (tabS 2) = true := by kernel_rfl
theorem r30s4 {val : Nat → Int} (h : Holds val (lenF 30 :: eqs 4)) : runL val _ h 30 (ci 4) (tabS 4) = true := by kernel_rfl
theorem r30s8 {val : Nat → Int} (h : Holds val (lenF 30 :: eqs 8)) : runL val _ h 30 (ci 8) (tabS 8) = true := by kernel_rfl
theorem d30 : DL 30 := ⟨fun val h => leaf h trivial (by kernel_rfl) (by kernel_rfl) (by kernel_rfl) (by kernel_rfl) (by kernel_rfl) (r30z h), fun val h => leaf h trivial (by kernel_rfl) (by kernel_rfl) (by kernel_rfl) (by kernel_rfl) (by kernel_rfl) (r30n h), fun val h => leaf h trivial (by kernel_rfl) (by kernel_rfl) (by kernel_rfl) (by kernel_rfl) (by kernel_rfl) (r30s1 h), fun val h => leaf h trivial (by kernel_rfl) (by kernel_rfl) (by kernel_rfl) (by kernel_rfl) (by kernel_rfl) (r30s2 h), fun val h => leaf h trivial (by kernel_rfl) (by kernel_rfl) (by kernel_rfl) (by kernel_rfl) (by kernel_rfl) (r30s4 h), fun val h => leaf h trivial (by kernel_rfl) (by kernel_rfl) (by kernel_rfl) (by kernel_rfl) (by kernel_rfl) (r30s8 h)⟩

theorem r35z {val : Nat → Int} (h : Holds val [lenF 35]) : runL val _ h 35 (a 2) tabZ = true := by kernel_rfl
theorem r35n {val : Nat → Int} (h : Holds val [lenF 35]) : runL val _ h 35 (a 2) tabN = true := by kernel_rfl
theorem r35s1 {val : Nat → Int} (h : Holds val (lenF 35 :: eqs 1)) : runL val _ h 35 (ci 1) (tabS 1) = true := by kernel_rfl
theorem r35s2 {val : Nat → Int} (h : Holds val (lenF 35 :: eqs 2)) : runL val _ h 35 (ci 2) (tabS 2) = true := by kernel_rfl
theorem r35s4 {val : Nat → Int} (h : Holds val (lenF 35 :: eqs 4)) : runL val _ h 35 (ci 4) (tabS 4) = true := by kernel_rfl
theorem r35s8 {val : Nat → Int} (h : Holds val (lenF 35 :: eqs 8)) : runL val _ h 35 (ci 8) (tabS 8) = true := by kernel_rfl
theorem d35 : DL 35 := ⟨fun val h => leaf h trivial (by kernel_rfl) (by kernel_rfl) (by kernel_rfl) (by kernel_rfl) (by kernel_rfl) (r35z h), fun val h => leaf h trivial (by kernel_rfl) (by kernel_rfl) (by kernel_rfl) (by kernel_rfl) (by kernel_rfl) (r35n h), fun val h => leaf h trivial (by kernel_rfl) (by kernel_rfl) (by kernel_rfl) (by kernel_rfl) (by kernel_rfl) (r35s1 h), fun val h => leaf h trivial (by kernel_rfl) (by kernel_rfl) (by kernel_rfl) (by kernel_rfl) (by kernel_rfl) (r35s2 h), fun val h => leaf h trivial (by kernel_rfl) (by kernel_rfl) (by kernel_rfl) (by kernel_rfl) (by kernel_rfl) (r35s4 h), fun val h => leaf h trivial (by kernel_rfl) (by kernel_rfl) (by kernel_rfl) (by kernel_rfl) (by kernel_rfl) (r35s8 h)⟩

theorem r40z {val : Nat → Int} (h : Holds val [lenF 40]) : runL val _ h 40 (a 2) tabZ = true := by kernel_rfl
theorem r40n {val : Nat → Int} (h : Holds val [lenF 40]) : runL val _ h 40 (a 2) tabN = true := by kernel_rfl
theorem r40s1 {val : Nat → Int} (h : Holds val (lenF 40 :: eqs 1)) : runL val _ h 40 (ci 1) (tabS 1) = true := by kernel_rfl
theorem r40s2 {val : Nat → Int} (h : Holds val (lenF 40 :: eqs 2)) : runL val _ h 40 (ci 2) (tabS 2) = true := by kernel_rfl
theorem r40s4 {val : Nat → Int} (h : Holds val (lenF 40 :: eqs 4)) : runL val _ h 40 (ci 4) (tabS 4) = true := by kernel_rfl
theorem r40s8 {val : Nat → Int} (h : Holds val (lenF 40 :: eqs 8)) : runL val _ h 40 (ci 8) (tabS 8) = true := by kernel_rfl
theorem d40 : DL 40 := ⟨fun val h => leaf h trivial (by kernel_rfl) (by kernel_rfl) (by kernel_rfl) (by kernel_rfl) (by kernel_rfl) (r40z h), fun val h => leaf h trivial (by kernel_rfl) (by kernel_rfl) (by kernel_rfl) (by kernel_rfl) (by kernel_rfl) (r40n h), fun val h => leaf h trivial (by kernel_rfl) (by kernel_rfl) (by kernel_rfl) (by kernel_rfl) (by kernel_rfl) (r40s1 h), fun val h => leaf h trivial (by kernel_rfl) (by kernel_rfl) (by kernel_rfl) (by kernel_rfl) (by kernel_rfl) (r40s2 h), fun val h => leaf h trivial (by kernel_rfl) (by kernel_rfl) (by kernel_rfl) (by kernel_rfl) (by kernel_rfl) (r40s4 h), fun val h => leaf h trivial (by kernel_rfl) (by kernel_rfl) (by kernel_rfl) (by kernel_rfl) (by kernel_rfl) (r40s8 h)⟩

theorem r45z {val : Nat → Int} (h : Holds val [lenF 45]) : runL val _ h 45 (a 2) tabZ = true := by kernel_rfl
theorem r45n {val : Nat → Int} (h : Holds val [lenF 45]) : runL val _ h 45 (a 2) tabN = true := by kernel_rfl
theorem r45s1 {val : Nat → Int} (h : Holds val (lenF 45 :: eqs 1)) : runL val _ h 45 (ci 1) (tabS 1) = true := by kernel_rfl
theorem r45s2 {val : Nat → Int} (h : Holds val (lenF 45 :: eqs 2)) : runL val _ h 45 (ci 2) (tabS 2) = true := by kernel_rfl
theorem r45s4 {val : Nat → Int} (h : Holds val (lenF 45 :: eqs 4)) : runL val _ h 45 (ci 4) (tabS 4) = true := by kernel_rfl
theorem r45s8 {val : Nat → Int} (h : Holds val (lenF 45 :: eqs 8)) : runL val _ h 45 (ci 8) (tabS 8) = true := by kernel_rfl
theorem d45 : DL 45 := ⟨fun val h => leaf h trivial (by kernel_rfl) (by kernel_rfl) (by kernel_rfl) (by kernel_rfl) (by kernel_rfl) (r45z h), fun val h => leaf h trivial (by kernel_rfl) (by kernel_rfl) (by kernel_rfl) (by kernel_rfl) (by kernel_rfl) (r45n h), fun val h => leaf h trivial (by kernel_rfl) (by kernel_rfl) (by kernel_rfl) (by kernel_rfl) (by kernel_rfl) (r45s1 h), fun val h => leaf h trivial (by kernel_rfl) (by kernel_rfl) (by kernel_rfl) (by kernel_rfl) (by kernel_rfl) (r45s2 h), fun val h => leaf h trivial (by kernel_rfl) (by kernel_rfl) (by kernel_rfl) (by kernel_rfl) (by kernel_rfl) (r45s4 h), fun val h => leaf h trivial (by kernel_rfl) (by kernel_rfl) (by kernel_rfl) (by kernel_rfl) (by kernel_rfl) (r45s8 h)⟩

theorem r50z {val : Nat → Int} (h : Holds val [lenF 50]) : runL val _ h 50 (a 2) tabZ = true := by kernel_rfl
theorem r50n {val : Nat → Int} (h : Holds val [lenF 50]) : runL val _ h 50 (a 2) tabN = true := by kernel_rfl
theorem r50s1 {val : Nat → Int} (h : Holds val (lenF 50 :: eqs 1)) : runL val _ h 50 (ci 1) (tabS 1) = true := by kernel_rfl
theorem r50s2 {val : Nat → Int} (h : Holds val (lenF 50 :: eqs 2)) : runL val _ h 50 (ci 2) (tabS 2) = true := by kernel_rfl
theorem r50s4 {val : Nat → Int} (h : Holds val (lenF 50 :: eqs 4)) : runL val _ h 50 (ci 4) (tabS 4) = true := by kernel_rfl
theorem r50s8 {val : Nat → Int} (h : Holds val (lenF 50 :: eqs 8)) : runL val _ h 50 (ci 8) (tabS 8) = true := by kernel_rfl
theorem d50 : DL 50 := ⟨fun val h => leaf h trivial (by kernel_rfl) (by kernel_rfl) (by kernel_rfl) (by kernel_rfl) (by kernel_rfl) (r50z h), fun val h => leaf h trivial (by kernel_rfl) (by kernel_rfl) (by kernel_rfl) (by kernel_rfl) (by kernel_rfl) (r50n h), fun val h => leaf h trivial (by kernel_rfl) (by kernel_rfl) (by kernel_rfl) (by kernel_rfl) (by kernel_rfl) (r50s1 h), fun val h => leaf h trivial (by kernel_rfl) (by kernel_rfl) (by kernel_rfl) (by kernel_rfl) (by kernel_rfl) (r50s2 h), fun val h => leaf h trivial (by kernel_rfl) (by kernel_rfl) (by kernel_rfl) (by kernel_rfl) (by kernel_rfl) (r50s4 h), fun val h => leaf h trivial (by kernel_rfl) (by kernel_rfl) (by kernel_rfl) (by kernel_rfl) (by kernel_rfl) (r50s8 h)⟩

theorem r55z {val : Nat → Int} (h : Holds val [lenF 55]) : runL val _ h 55 (a 2) tabZ = true := by kernel_rfl
theorem r55n {val : Nat → Int} (h : Holds val [lenF 55]) : runL val _ h 55 (a 2) tabN = true := by kernel_rfl
theorem r55s1 {val : Nat → Int} (h : Holds val (lenF 55 :: eqs 1)) : runL val _ h 55 (ci 1) (tabS 1) = true := by kernel_rfl
theorem r55s2 {val : Nat → Int} (h : Holds val (lenF 55 :: eqs 2)) : runL val _ h 55 (ci 2) (tabS 2) = true := by kernel_rfl
theorem r55s4 {val : Nat → Int} (h : Holds val (lenF 55 :: eqs 4)) : runL val _ h 55 (ci 4) (tabS 4) = true := by kernel_rfl
theorem r55s8 {val : Nat → Int} (h : Holds val (lenF 55 :: eqs 8)) : runL val _ h 55 (ci 8) (tabS 8) = true := by kernel_rfl
theorem d55 : DL 55 := ⟨fun val h => leaf h trivial (by kernel_rfl) (by kernel_rfl) (by kernel_rfl) (by kernel_rfl) (by kernel_rfl) (r55z h), fun val h => leaf h trivial (by kernel_rfl) (by kernel_rfl) (by kernel_rfl) (by kernel_rfl) (by kernel_rfl) (r55n h), fun val h => leaf h trivial (by kernel_rfl) (by kernel_rfl) (by kernel_rfl) (by kernel_rfl) (by kernel_rfl) (r55s1 h), fun val h => leaf h trivial (by kernel_rfl) (by kernel_rfl) (by kernel_rfl) (by kernel_rfl) (by kernel_rfl) (r55s2 h), fun val h => leaf h trivial (by kernel_rfl) (by kernel_rfl) (by kernel_rfl) (by kernel_rfl) (by kernel_rfl) (r55s4 h), fun val h => leaf h trivial (by kernel_rfl) (by kernel_rfl) (by kernel_rfl) (by kernel_rfl) (by kernel_rfl) (r55s8 h)⟩

theorem r60z {val : Nat → Int} (h : Holds val [lenF 60]) : runL val _ h 60 (a 2) tabZ = true := by kernel_rfl
theorem r60n {val : Nat → Int} (h : Holds val [lenF 60]) : runL val _ h 60 (a 2) tabN = true := by kernel_rfl
theorem r60s1 {val : Nat → Int} (h : Holds val (lenF 60 :: eqs 1)) : runL val _ h 60 (ci 1) (tabS 1) = true := by kernel_rfl
theorem r60s2 {val : Nat → Int} (h : Holds val (lenF 60 :: eqs 2)) : runL val _ h 60 (ci 2) (tabS 2) = true := by kernel_rfl
theorem r60s4 {val : Nat → Int} (h : Holds val (lenF 60 :: eqs 4)) : runL val _ h 60 (ci 4) (tabS 4) = true := by kernel_rfl
theorem r60s8 {val : Nat → Int} (h : Holds val (lenF 60 :: eqs 8)) : runL val _ h 60 (ci 8) (tabS 8) = true := by kernel_rfl
theorem d60 : DL 60 := ⟨fun val h => leaf h trivial (by kernel_rfl) (by kernel_rfl) (by kernel_rfl) (by kernel_rfl) (by kernel_rfl) (r60z h), fun val h => leaf h trivial (by kernel_rfl) (by kernel_rfl) (by kernel_rfl) (by kernel_rfl) (by kernel_rfl) (r60n h), fun val h => leaf h trivial (by kernel_rfl) (by kernel_rfl) (by kernel_rfl) (by kernel_rfl) (by kernel_rfl) (r60s1 h), fun val h => leaf h trivial (by kernel_rfl) (by kernel_rfl) (by kernel_rfl) (by kernel_rfl) (by kernel_rfl) (r60s2 h), fun val h => leaf h trivial (by kernel_rfl) (by kernel_rfl) (by kernel_rfl) (by kernel_rfl) (by kernel_rfl) (r60s4 h), fun val h => leaf h trivial (by kernel_rfl) (by kernel_rfl) (by kernel_rfl) (by kernel_rfl) (by kernel_rfl) (r60s8 h)⟩

theorem r65z {val : Nat → Int} (h : Holds val [lenF 65]) : runL val _ h 65 (a 2) tabZ = true := by kernel_rfl
theorem r65n {val : Nat → Int} (h : Holds val [lenF 65]) : runL val _ h 65 (a 2) tabN = true := by kernel_rfl
theorem r65s1 {val : Nat → Int} (h : Holds val (lenF 65 :: eqs 1)) : runL val _ h 65 (ci 1) (tabS 1) = true := by kernel_rfl
theorem r65s2 {val : Nat → Int} (h : Holds val (lenF 65 :: eqs 2)) : runL val _ h 65 (ci 2) (tabS 2) = true := by kernel_rfl
theorem r65s4 {val : Nat → Int} (h : Holds val (lenF 65 :: eqs 4)) : runL val _ h 65 (ci 4) (tabS 4) = true := by kernel_rfl
theorem r65s8 {val : Nat → Int} (h : Holds val (lenF 65 :: eqs 8)) : runL val _ h 65 (ci 8) (tabS 8) = true := by kernel_rfl
theorem d65 : DL 65 := ⟨fun val h => leaf h trivial (by kernel_rfl) (by kernel_rfl) (by kernel_rfl) (by kernel_rfl) (by kernel_rfl) (r65z h), fun val h => leaf h trivial (by kernel_rfl) (by kernel_rfl) (by kernel_rfl) (by kernel_rfl) (by kernel_rfl) (r65n h), fun val h => leaf h trivial (by kernel_rfl) (by kernel_rfl) (by kernel_rfl) (by kernel_rfl) (by kernel_rfl) (r65s1 h), fun val h => leaf h trivial (by kernel_rfl) (by kernel_rfl) (by kernel_rfl) (by kernel_rfl) (by kernel_rfl) (r65s2 h), fun val h => leaf h trivial (by kernel_rfl) (by kernel_rfl) (by kernel_rfl) (by kernel_rfl) (by kernel_rfl) (r65s4 h), fun val h => leaf h trivial (by kernel_rfl) (by kernel_rfl) (by kernel_rfl) (by kernel_rfl) (by kernel_rfl) (r65s8 h)⟩

theorem r70z {val : Nat → Int} (h : Holds val [lenF 70]) : runL val _ h 70 (a 2) tabZ = true := by kernel_rfl
theorem r70n {val : Nat → Int} (h : Holds val [lenF 70]) : runL val _ h 70 (a 2) tabN = true := by kernel_rfl
theorem r70s1 {val : Nat → Int} (h : Holds val (lenF 70 :: eqs 1)) : runL val _ h 70 (ci 1) (tabS 1) = true := by kernel_rfl
theorem r70s2 {val : Nat → Int} (h : Holds val (lenF 70 :: eqs 2)) : runL val _ h 70 (ci 2) (tabS 2) = true := by kernel_rfl
theorem r70s4 {val : Nat → Int} (h : Holds val (lenF 70 :: eqs 4)) : runL val _ h 70 (ci 4) (tabS 4) = true := by kernel_rfl
theorem r70s8 {val : Nat → Int} (h : Holds val (lenF 70 :: eqs 8)) : runL val _ h 70 (ci 8) (tabS 8) = true := by kernel_rfl
theorem d70 : DL 70 := ⟨fun val h => leaf h trivial (by kernel_rfl) (by kernel_rfl) (by kernel_rfl) (by kernel_rfl) (by kernel_rfl) (r70z h), fun val h => leaf h trivial (by kernel_rfl) (by kernel_rfl) (by kernel_rfl) (by kernel_rfl) (by kernel_rfl) (r70n h), fun val h => leaf h trivial (by kernel_rfl) (by kernel_rfl) (by kernel_rfl) (by kernel_rfl) (by kernel_rfl) (r70s1 h), fun val h => leaf h trivial (by kernel_rfl) (by kernel_rfl) (by kernel_rfl) (by kernel_rfl) (by kernel_rfl) (r70s2 h), fun val h => leaf h trivial (by kernel_rfl) (by kernel_rfl) (by kernel_rfl) (by kernel_rfl) (by kernel_rfl) (r70s4 h), fun val h => leaf h trivial (by kernel_rfl) (by kernel_rfl) (by kernel_rfl) (by kernel_rfl) (by kernel_rfl) (r70s8 h)⟩

theorem r75z {val : Nat → Int} (h : Holds val [lenF 75]) : runL val _ h 75 (a 2) tabZ = true := by kernel_rfl
theorem r75n {val : Nat → Int} (h : Holds val [lenF 75]) : runL val _ h 75 (a 2) tabN = true := by kernel_rfl
theorem r75s1 {val : Nat → Int} (h : Holds val (lenF 75 :: eqs 1)) : runL val _ h 75 (ci 1) (tabS 1) = true := by kernel_rfl
theorem r75s2 {val : Nat → Int} (h : Holds val (lenF 75 :: eqs 2)) : runL val _ h 75 (ci 2) (tabS 2) = true := by kernel_rfl
theorem r75s4 {val : Nat → Int} (h : Holds val (lenF 75 :: eqs 4)) : runL val _ h 75 (ci 4) (tabS 4) = true := by kernel_rfl
theorem r75s8 {val : Nat → Int} (h : Holds val (lenF 75 :: eqs 8)) : runL val _ h 75 (ci 8) (tabS 8) = true := by kernel_rfl
theorem d75 : DL 75 := ⟨fun val h => leaf h trivial (by kernel_rfl) (by kernel_rfl) (by kernel_rfl) (by kernel_rfl) (by kernel_rfl) (r75z h), fun val h => leaf h trivial (by kernel_rfl) (by kernel_rfl) (by kernel_rfl) (by kernel_rfl) (by kernel_rfl) (r75n h), fun val h => leaf h trivial (by kernel_rfl) (by kernel_rfl) (by kernel_rfl) (by kernel_rfl) (by kernel_rfl) (r75s1 h), fun val h => leaf h trivial (by kernel_rfl) (by kernel_rfl) (by kernel_rfl) (by kernel_rfl) (by kernel_rfl) (r75s2 h), fun val h => leaf h trivial (by kernel_rfl) (by kernel_rfl) (by kernel_rfl) (by kernel_rfl) (by kernel_rfl) (r75s4 h), fun val h => leaf h trivial (by kernel_rfl) (by kernel_rfl) (by kernel_rfl) (by kernel_rfl) (by kernel_rfl) (r75s8 h)⟩

theorem r80z {val : Nat → Int} (h : Holds val [lenF 80]) : runL val _ h 80 (a 2) tabZ = true := by kernel_rfl
theorem r80n {val : Nat → Int} (h : Holds val [lenF 80]) : runL val _ h 80 (a 2) tabN = true := by kernel_rfl
theorem r80s1 {val : Nat → Int} (h : Holds val (lenF 80 :: eqs 1)) : runL val _ h 80 (ci 1) (tabS 1) = true := by kernel_rfl
theorem r80s2 {val : Nat → Int} (h : Holds val (lenF 80 :: eqs 2)) : runL val _ h 80 (ci 2) (tabS 2) = true := by kernel_rfl
theorem r80s4 {val : Nat → Int} (h : Holds val (lenF 80 :: eqs 4)) : runL val _ h 80 (ci 4) (tabS 4) = true := by kernel_rfl
theorem r80s8 {val : Nat → Int} (h : Holds val (lenF 80 :: eqs 8)) : runL val _ h 80 (ci 8) (tabS 8) = true := by kernel_rfl
theorem d80 : DL 80 := ⟨fun val h => leaf h trivial (by kernel_rfl) (by kernel_rfl) (by kernel_rfl) (by kernel_rfl) (by kernel_rfl) (r80z h), fun val h => leaf h trivial (by kernel_rfl) (by kernel_rfl) (by kernel_rfl) (by kernel_rfl) (by kernel_rfl) (r80n h), fun val h => leaf h trivial (by kernel_rfl) (by kernel_rfl) (by kernel_rfl) (by kernel_rfl) (by kernel_rfl) (r80s1 h), fun val h => leaf h trivial (by kernel_rfl) (by kernel_rfl) (by kernel_rfl) (by kernel_rfl) (by kernel_rfl) (r80s2 h), fun val h => leaf h trivial (by kernel_rfl) (by kernel_rfl) (by kernel_rfl) (by kernel_rfl) (by kernel_rfl) (r80s4 h), fun val h => leaf h trivial (by kernel_rfl) (by kernel_rfl) (by kernel_rfl) (by kernel_rfl) (by kernel_rfl) (r80s8 h)⟩

theorem r85z {val : Nat → Int} (h : Holds val [lenF 85]) : runL val _ h 85 (a 2) tabZ = true := by kernel_rfl
theorem r85n {val : Nat → Int} (h : Holds val [lenF 85]) : runL val _ h 85 (a 2) tabN = true := by kernel_rfl
theorem r85s1 {val : Nat → Int} (h : Holds val (lenF 85 :: eqs 1)) : runL val _ h 85 (ci 1) (tabS 1) = true := by kernel_rfl
theorem r85s2 {val : Nat → Int} (h : Holds val (lenF 85 :: eqs 2)) : runL val _ h 85 (ci 2) (tabS 2) = true := by kernel_rfl
theorem r85s4 {val : Nat → Int} (h : Holds val (lenF 85 :: eqs 4)) : runL val _ h 85 (ci 4) (tabS 4) = true := by kernel_rfl
theorem r85s8 {val : Nat → Int} (h : Holds val (lenF 85 :: eqs 8)) : runL val _ h 85 (ci 8) (tabS 8) = true := by kernel_rfl
theorem d85 : DL 85 := ⟨fun val h => leaf h trivial (by kernel_rfl) (by kernel_rfl) (by kernel_rfl) (by kernel_rfl) (by kernel_rfl) (r85z h), fun val h => leaf h trivial (by kernel_rfl) (by kernel_rfl) (by kernel_rfl) (by kernel_rfl) (by kernel_rfl) (r85n h), fun val h => leaf h trivial (by kernel_rfl) (by kernel_rfl) (by kernel_rfl) (by kernel_rfl) (by kernel_rfl) (r85s1 h), fun val h => leaf h trivial (by kernel_rfl) (by kernel_rfl) (by kernel_rfl) (by kernel_rfl) (by kernel_rfl) (r85s2 h), fun val h => leaf h trivial (by kernel_rfl) (by kernel_rfl) (by kernel_rfl) (by kernel_rfl) (by kernel_rfl) (r85s4 h), fun val h => leaf h trivial (by kernel_rfl) (by kernel_rfl) (by kernel_rfl) (by kernel_rfl) (by kernel_rfl) (r85s8 h)⟩

theorem r90z {val : Nat → Int} (h : Holds val [lenF 90]) : runL val _ h 90 (a 2) tabZ = true := by kernel_rfl
theorem r90n {val : Nat → Int} (h : Holds val [lenF 90]) : runL val _ h 90 (a 2) tabN = true := by kernel_rfl
theorem r90s1 {val : Nat → Int} (h : Holds val (lenF 90 :: eqs 1)) : runL val _ h 90 (ci 1) (tabS 1) = true := by kernel_rfl
theorem r90s2 {val : Nat → Int} (h : Holds val (lenF 90 :: eqs 2)) : runL val _ h 90 (ci 2) (tabS 2) = true := by kernel_rfl
theorem r90s4 {val : Nat → Int} (h : Holds val (lenF 90 :: eqs 4)) : runL val _ h 90 (ci 4) (tabS 4) = true := by kernel_rfl
theorem r90s8 {val : Nat → Int} (h : Holds val (lenF 90 :: eqs 8)) : runL val _ h 90 (ci 8) (tabS 8) = true := by kernel_rfl
theorem d90 : DL 90 := ⟨fun val h => leaf h trivial (by kernel_rfl) (by kernel_rfl) (by kernel_rfl) (by kernel_rfl) (by kernel_rfl) (r90z h), fun val h => leaf h trivial (by kernel_rfl) (by kernel_rfl) (by kernel_rfl) (by kernel_rfl) (by kernel_rfl) (r90n h), fun val h => leaf h trivial (by kernel_rfl) (by kernel_rfl) (by kernel_rfl) (by kernel_rfl) (by kernel_rfl) (r90s1 h), fun val h => leaf h trivial (by kernel_rfl) (by kernel_rfl) (by kernel_rfl) (by kernel_rfl) (by kernel_rfl) (r90s2 h), fun val h => leaf h trivial (by kernel_rfl) (by kernel_rfl) (by kernel_rfl) (by kernel_rfl) (by kernel_rfl) (r90s4 h), fun val h => leaf h trivial (by kernel_rfl) (by kernel_rfl) (by kernel_rfl) (by kernel_rfl) (by kernel_rfl) (r90s8 h)⟩

theorem r95z {val : Nat → Int} (h : Holds val [lenF 95]) : runL val _ h 95 (a 2) tabZ = true := by kernel_rfl
theorem r95n {val : Nat → Int} (h : Holds val [lenF 95]) : runL val _ h 95 (a 2) tabN = true := by kernel_rfl
theorem r95s1 {val : Nat → Int} (h : Holds val (lenF 95 :: eqs 1)) : runL val _ h 95 (ci 1) (tabS 1) = true := by kernel_rfl
theorem r95s2 {val : Nat → Int} (h : Holds val (lenF 95 :: eqs 2)) : runL val _ h 95 (ci 2) (tabS 2) = true := by kernel_rfl
theorem r95s4 {val : Nat → Int} (h : Holds val (lenF 95 :: eqs 4)) : runL val _ h 95 (ci 4) (tabS 4) = true := by kernel_rfl
theorem r95s8 {val : Nat → Int} (h : Holds val (lenF 95 :: eqs 8)) : runL val _ h 95 (ci 8) (tabS 8) = true := by kernel_rfl
theorem d95 : DL 95 := ⟨fun val h => leaf h trivial (by kernel_rfl) (by kernel_rfl) (by kernel_rfl) (by kernel_rfl) (by kernel_rfl) (r95z h), fun val h => leaf h trivial (by kernel_rfl) (by kernel_rfl) (by kernel_rfl) (by kernel_rfl) (by kernel_rfl) (r95n h), fun val h => leaf h trivial (by kernel_rfl) (by kernel_rfl) (by kernel_rfl) (by kernel_rfl) (by kernel_rfl) (r95s1 h), fun val h => leaf h trivial (by kernel_rfl) (by kernel_rfl) (by kernel_rfl) (by kernel_rfl) (by kernel_rfl) (r95s2 h), fun val h => leaf h trivial (by kernel_rfl) (by kernel_rfl) (by kernel_rfl) (by kernel_rfl) (by kernel_rfl) (r95s4 h), fun val h => leaf h trivial (by kernel_rfl) (by kernel_rfl) (by kernel_rfl) (by kernel_rfl) (by kernel_rfl) (r95s8 h)⟩

theorem r100z {val : Nat → Int} (h : Holds val [lenF 100]) : runL val _ h 100 (a 2) tabZ = true := by kernel_rfl
theorem r100n {val : Nat → Int} (h : Holds val [lenF 100]) : runL val _ h 100 (a 2) tabN = true := by kernel_rfl
theorem r100s1 {val : Nat → Int} (h : Holds val (lenF 100 :: eqs 1)) : runL val _ h 100 (ci 1) (tabS 1) = true := by kernel_rfl
theorem r100s2 {val : Nat → Int} (h : Holds val (lenF 100 :: eqs 2)) : runL val _ h 100 (ci 2) (tabS 2) = true := by kernel_rfl
theorem r100s4 {val : Nat → Int} (h : Holds val (lenF 100 :: eqs 4)) : runL val _ h 100 (ci 4) (tabS 4) = true := by kernel_rfl
theorem r100s8 {val : Nat → Int} (h : Holds val (lenF 100 :: eqs 8)) : runL val _ h 100 (ci 8) (tabS 8) = true := by kernel_rfl
theorem d100 : DL 100 := ⟨fun val h => leaf h trivial (by kernel_rfl) (by kernel_rfl) (by kernel_rfl) (by kernel_rfl) (by kernel_rfl) (r100z h), fun val h => leaf h trivial (by kernel_rfl) (by kernel_rfl) (by kernel_rfl) (by kernel_rfl) (by kernel_rfl) (r100n h), fun val h => leaf h trivial (by kernel_rfl) (by kernel_rfl) (by kernel_rfl) (by kernel_rfl) (by kernel_rfl) (r100s1 h), fun val h => leaf h trivial (by kernel_rfl) (by kernel_rfl) (by kernel_rfl) (by kernel_rfl) (by kernel_rfl) (r100s2 h), fun val h => leaf h trivial (by kernel_rfl) (by kernel_rfl) (by kernel_rfl) (by kernel_rfl) (by kernel_rfl) (r100s4 h), fun val h => leaf h trivial (by kernel_rfl) (by kernel_rfl) (by kernel_rfl) (by kernel_rfl) (by kernel_rfl) (r100s8 h)⟩

end Go.Proofs.Ytclgmeoofmidfaa.TellsL
