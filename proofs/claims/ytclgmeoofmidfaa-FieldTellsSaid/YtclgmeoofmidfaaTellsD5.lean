/-
  The law 'FieldTells', by lengths: each way, run.
-/
import Derived.Test.YtclgmeoofmidfaaTellsH
namespace Go.Proofs.Ytclgmeoofmidfaa.TellsL
open Go.Sim Go.Proofs.Ytclgmeoofmidfaa.Fld
set_option maxRecDepth 100000

theorem r4z {val : Nat → Int} (h : Holds val [lenF 4]) : runL val _ h 4 (a 2) tabZ = true := by kernel_rfl
theorem r4n {val : Nat → Int} (h : Holds val [lenF 4]) : runL val _ h 4 (a 2) tabN = true := by kernel_rfl
theorem r4s1 {val : Nat → Int} (h : Holds val (lenF 4 :: eqs 1)) : runL val _ h 4 (ci 1) (tabS 1) = true := by kernel_rfl
theorem r4s2 {val : Nat → Int} (h : Holds val (lenF 4 :: eqs 2)) : runL val _ h 4 (ci 2) (tabS 2) = true := by kernel_rfl
theorem r4s4 {val : Nat → Int} (h : Holds val (lenF 4 :: eqs 4)) : runL val _ h 4 (ci 4) (tabS 4) = true := by kernel_rfl
theorem r4s8 {val : Nat → Int} (h : Holds val (lenF 4 :: eqs 8)) : runL val _ h 4 (ci 8) (tabS 8) = true := by kernel_rfl
theorem d4 : DL 4 := ⟨fun val h => leaf h trivial (by kernel_rfl) (by kernel_rfl) (by kernel_rfl) (by kernel_rfl) (by kernel_rfl) (r4z h), fun val h => leaf h trivial (by kernel_rfl) (by kernel_rfl) (by kernel_rfl) (by kernel_rfl) (by kernel_rfl) (r4n h), fun val h => leaf h trivial (by kernel_rfl) (by kernel_rfl) (by kernel_rfl) (by kernel_rfl) (by kernel_rfl) (r4s1 h), fun val h => leaf h trivial (by kernel_rfl) (by kernel_rfl) (by kernel_rfl) (by kernel_rfl) (by kernel_rfl) (r4s2 h), fun val h => leaf h trivial (by kernel_rfl) (by kernel_rfl) (by kernel_rfl) (by kernel_rfl) (by kernel_rfl) (r4s4 h), fun val h => leaf h trivial (by kernel_rfl) (by kernel_rfl) (by kernel_rfl) (by kernel_rfl) (by kernel_rfl) (r4s8 h)⟩

theorem r9z {val : Nat → Int} (h : Holds val [lenF 9]) : runL val _ h 9 (a 2) tabZ = true := by kernel_rfl
theorem r9n {val : Nat → Int} (h : Holds val [lenF 9]) : runL val _ h 9 (a 2) tabN = true := by kernel_rfl
theorem r9s1 {val : Nat → Int} (h : Holds val (lenF 9 :: eqs 1)) : runL val _ h 9 (ci 1) (tabS 1) = true := by kernel_rfl
theorem r9s2 {val : Nat → Int} (h : Holds val (lenF 9 :: eqs 2)) : runL val _ h 9 (ci 2) (tabS 2) = true := by kernel_rfl
theorem r9s4 {val : Nat → Int} (h : Holds val (lenF 9 :: eqs 4)) : runL val _ h 9 (ci 4) (tabS 4) = true := by kernel_rfl
theorem r9s8 {val : Nat → Int} (h : Holds val (lenF 9 :: eqs 8)) : runL val _ h 9 (ci 8) (tabS 8) = true := by kernel_rfl
theorem d9 : DL 9 := ⟨fun val h => leaf h trivial (by kernel_rfl) (by kernel_rfl) (by kernel_rfl) (by kernel_rfl) (by kernel_rfl) (r9z h), fun val h => leaf h trivial (by kernel_rfl) (by kernel_rfl) (by kernel_rfl) (by kernel_rfl) (by kernel_rfl) (r9n h), fun val h => leaf h trivial (by kernel_rfl) (by kernel_rfl) (by kernel_rfl) (by kernel_rfl) (by kernel_rfl) (r9s1 h), fun val h => leaf h trivial (by kernel_rfl) (by kernel_rfl) (by kernel_rfl) (by kernel_rfl) (by kernel_rfl) (r9s2 h), fun val h => leaf h trivial (by kernel_rfl) (by kernel_rfl) (by kernel_rfl) (by kernel_rfl) (by kernel_rfl) (r9s4 h), fun val h => leaf h trivial (by kernel_rfl) (by kernel_rfl) (by kernel_rfl) (by kernel_rfl) (by kernel_rfl) (r9s8 h)⟩

theorem r14z {val : Nat → Int} (h : Holds val [lenF 14]) : runL val _ h 14 (a 2) tabZ = true := by kernel_rfl
theorem r14n {val : Nat → Int} (h : Holds val [lenF 14]) : runL val _ h 14 (a 2) tabN = true := by kernel_rfl
theorem r14s1 {val : Nat → Int} (h : Holds val (lenF 14 :: eqs 1)) : runL val _ h 14 (ci 1) (tabS 1) = true := by kernel_rfl
theorem r14s2 {val : Nat → Int} (h : Holds val (lenF 14 :: eqs 2)) : runL val _ h 14 (ci 2) (tabS 2) = true := by kernel_rfl
theorem r14s4 {val : Nat → Int} (h : Holds val (lenF 14 :: eqs 4)) : runL val _ h 14 (ci 4) (tabS 4) = true := by kernel_rfl
theorem r14s8 {val : Nat → Int} (h : Holds val (lenF 14 :: eqs 8)) : runL val _ h 14 (ci 8) (tabS 8) = true := by kernel_rfl
theorem d14 : DL 14 := ⟨fun val h => leaf h trivial (by kernel_rfl) (by kernel_rfl) (by kernel_rfl) (by kernel_rfl) (by kernel_rfl) (r14z h), fun val h => leaf h trivial (by kernel_rfl) (by kernel_rfl) (by kernel_rfl) (by kernel_rfl) (by kernel_rfl) (r14n h), fun val h => leaf h trivial (by kernel_rfl) (by kernel_rfl) (by kernel_rfl) (by kernel_rfl) (by kernel_rfl) (r14s1 h), fun val h => leaf h trivial (by kernel_rfl) (by kernel_rfl) (by kernel_rfl) (by kernel_rfl) (by kernel_rfl) (r14s2 h), fun val h => leaf h trivial (by kernel_rfl) (by kernel_rfl) (by kernel_rfl) (by kernel_rfl) (by kernel_rfl) (r14s4 h), fun val h => leaf h trivial (by kernel_rfl) (by kernel_rfl) (by kernel_rfl) (by kernel_rfl) (by kernel_rfl) (r14s8 h)⟩

theorem r19z {val : Nat → Int} (h : Holds val [lenF 19]) : runL val _ h 19 (a 2) tabZ = true := by kernel_rfl
theorem r19n {val : Nat → Int} (h : Holds val [lenF 19]) : runL val _ h 19 (a 2) tabN = true := by kernel_rfl
theorem r19s1 {val : Nat → Int} (h : Holds val (lenF 19 :: eqs 1)) : runL val _ h 19 (ci 1) (tabS 1) = true := by kernel_rfl
theorem r19s2 {val : Nat → Int} (h : Holds val (lenF 19 :: eqs 2)) : runL val _ h 19 (ci 2) (tabS 2) = true := by kernel_rfl
theorem r19s4 {val : Nat → Int} (h : Holds val (lenF 19 :: eqs 4)) : runL val _ h 19 (ci 4) (tabS 4) = true := by kernel_rfl
theorem r19s8 {val : Nat → Int} (h : Holds val (lenF 19 :: eqs 8)) : runL val _ h 19 (ci 8) (tabS 8) = true := by kernel_rfl
theorem d19 : DL 19 := ⟨fun val h => leaf h trivial (by kernel_rfl) (by kernel_rfl) (by kernel_rfl) (by kernel_rfl) (by kernel_rfl) (r19z h), fun val h => leaf h trivial (by kernel_rfl) (by kernel_rfl) (by kernel_rfl) (by kernel_rfl) (by kernel_rfl) (r19n h), fun val h => leaf h trivial (by kernel_rfl) (by kernel_rfl) (by kernel_rfl) (by kernel_rfl) (by kernel_rfl) (r19s1 h), fun val h => leaf h trivial (by kernel_rfl) (by kernel_rfl) (by kernel_rfl) (by kernel_rfl) (by kernel_rfl) (r19s2 h), fun val h => leaf h trivial (by kernel_rfl) (by kernel_rfl) (by kernel_rfl) (by kernel_rfl) (by kernel_rfl) (r19s4 h), fun val h => leaf h trivial (by kernel_rfl) (by kernel_rfl) (by kernel_rfl) (by kernel_rfl) (by kernel_rfl) (r19s8 h)⟩

theorem r24z {val : Nat → Int} (h : Holds val [lenF 24]) : runL val _ h 24 (a 2) tabZ = true := by kernel_rfl
theorem r24n {val : Nat → Int} (h : Holds val [lenF 24]) : runL val _ h 24 (a 2) tabN = true := by kernel_rfl
theorem r24s1 {val : Nat → Int} (h : Holds val (lenF 24 :: eqs 1)) : runL val _ h 24 (ci 1) (tabS 1) = true := by kernel_rfl
theorem r24s2 {val : Nat → Int} (h : Holds val (lenF 24 :: eqs 2)) : runL val _ h 24 (ci 2) (tabS 2) = true := by kernel_rfl
theorem r24s4 {val : Nat → Int} (h : Holds val (lenF 24 :: eqs 4)) : runL val _ h 24 (ci 4) (tabS 4) = true := by kernel_rfl
theorem r24s8 {val : Nat → Int} (h : Holds val (lenF 24 :: eqs 8)) : runL val _ h 24 (ci 8) (tabS 8) = true := by kernel_rfl
theorem d24 : DL 24 := ⟨fun val h => leaf h trivial (by kernel_rfl) (by kernel_rfl) (by kernel_rfl) (by kernel_rfl) (by kernel_rfl) (r24z h), fun val h => leaf h trivial (by kernel_rfl) (by kernel_rfl) (by kernel_rfl) (by kernel_rfl) (by kernel_rfl) (r24n h), fun val h => leaf h trivial (by kernel_rfl) (by kernel_rfl) (by kernel_rfl) (by kernel_rfl) (by kernel_rfl) (r24s1 h), fun val h => leaf h trivial (by kernel_rfl) (by kernel_rfl) (by kernel_rfl) (by kernel_rfl) (by kernel_rfl) (r24s2 h), fun val h => leaf h trivial (by kernel_rfl) (by kernel_rfl) (by kernel_rfl) (by kernel_rfl) (by kernel_rfl) (r24s4 h), fun val h => leaf h trivial (by kernel_rfl) (by kernel_rfl) (by kernel_rfl) (by kernel_rfl) (by kernel_rfl) (r24s8 h)⟩

theorem r29z {val : Nat → Int} (h : Holds val [lenF 29]) : runL val _ h 29 (a 2) tabZ = true := by kernel_rfl
theorem r29n {val : Nat → Int} (h : Holds val [lenF 29]) : runL val _ h 29 (a 2) tabN = true := by kernel_rfl
theorem r29s1 {val : Nat → Int} (h : Holds val (lenF 29 :: eqs 1)) : runL val _ h 29 (ci 1) (tabS 1) = true := by kernel_rfl
theorem r29s2 {val : Nat → Int} (h : Holds val (lenF 29 :: eqs 2)) : runL val _ h 29 (ci 2) (tabS 2) = true := by kernel_rfl
theorem r29s4 {val : Nat → Int} (h : Holds val (lenF 29 :: eqs 4)) : runL val _ h 29 (ci 4) (tabS 4) = true := by kernel_rfl
theorem r29s8 {val : Nat → Int} (h : Holds val (lenF 29 :: eqs 8)) : runL val _ h 29 (ci 8) (tabS 8) = true := by kernel_rfl
theorem d29 : DL 29 := ⟨fun val h => leaf h trivial (by kernel_rfl) (by kernel_rfl) (by kernel_rfl) (by kernel_rfl) (by kernel_rfl) (r29z h), fun val h => leaf h trivial (by kernel_rfl) (by kernel_rfl) (by kernel_rfl) (by kernel_rfl) (by kernel_rfl) (r29n h), fun val h => leaf h trivial (by kernel_rfl) (by kernel_rfl) (by kernel_rfl) (by kernel_rfl) (by kernel_rfl) (r29s1 h), fun val h => leaf h trivial (by kernel_rfl) (by kernel_rfl) (by kernel_rfl) (by kernel_rfl) (by kernel_rfl) (r29s2 h), fun val h => leaf h trivial (by kernel_rfl) (by kernel_rfl) (by kernel_rfl) (by kernel_rfl) (by kernel_rfl) (r29s4 h), fun val h => leaf h trivial (by kernel_rfl) (by kernel_rfl) (by kernel_rfl) (by kernel_rfl) (by kernel_rfl) (r29s8 h)⟩

theorem r34z {val : Nat → Int} (h : Holds val [lenF 34]) : runL val _ h 34 (a 2) tabZ = true := by kernel_rfl
theorem r34n {val : Nat → Int} (h : Holds val [lenF 34]) : runL val _ h 34 (a 2) tabN = true := by kernel_rfl
theorem r34s1 {val : Nat → Int} (h : Holds val (lenF 34 :: eqs 1)) : runL val _ h 34 (ci 1) (tabS 1) = true := by kernel_rfl
theorem r34s2 {val : Nat → Int} (h : Holds val (lenF 34 :: eqs 2)) : runL val _ h 34 (ci 2) (tabS 2) = true := by kernel_rfl
theorem r34s4 {val : Nat → Int} (h : Holds val (lenF 34 :: eqs 4)) : runL val _ h 34 (ci 4) (tabS 4) = true := by kernel_rfl
theorem r34s8 {val : Nat → Int} (h : Holds val (lenF 34 :: eqs 8)) : runL val _ h 34 (ci 8) (tabS 8) = true := by kernel_rfl
theorem d34 : DL 34 := ⟨fun val h => leaf h trivial (by kernel_rfl) (by kernel_rfl) (by kernel_rfl) (by kernel_rfl) (by kernel_rfl) (r34z h), fun val h => leaf h trivial (by kernel_rfl) (by kernel_rfl) (by kernel_rfl) (by kernel_rfl) (by kernel_rfl) (r34n h), fun val h => leaf h trivial (by kernel_rfl) (by kernel_rfl) (by kernel_rfl) (by kernel_rfl) (by kernel_rfl) (r34s1 h), fun val h => leaf h trivial (by kernel_rfl) (by kernel_rfl) (by kernel_rfl) (by kernel_rfl) (by kernel_rfl) (r34s2 h), fun val h => leaf h trivial (by kernel_rfl) (by kernel_rfl) (by kernel_rfl) (by kernel_rfl) (by kernel_rfl) (r34s4 h), fun val h => leaf h trivial (by kernel_rfl) (by kernel_rfl) (by kernel_rfl) (by kernel_rfl) (by kernel_rfl) (r34s8 h)⟩

theorem r39z {val : Nat → Int} (h : Holds val [lenF 39]) : runL val _ h 39 (a 2) tabZ = true := by kernel_rfl
theorem r39n {val : Nat → Int} (h : Holds val [lenF 39]) : runL val _ h 39 (a 2) tabN = true := by kernel_rfl
theorem r39s1 {val : Nat → Int} (h : Holds val (lenF 39 :: eqs 1)) : runL val _ h 39 (ci 1) (tabS 1) = true := by kernel_rfl
theorem r39s2 {val : Nat → Int} (h : Holds val (lenF 39 :: eqs 2)) : runL val _ h 39 (ci 2) (tabS 2) = true := by kernel_rfl
theorem r39s4 {val : Nat → Int} (h : Holds val (lenF 39 :: eqs 4)) : runL val _ h 39 (ci 4) (tabS 4) = true := by kernel_rfl
theorem r39s8 {val : Nat → Int} (h : Holds val (lenF 39 :: eqs 8)) : runL val _ h 39 (ci 8) (tabS 8) = true := by kernel_rfl
theorem d39 : DL 39 := ⟨fun val h => leaf h trivial (by kernel_rfl) (by kernel_rfl) (by kernel_rfl) (by kernel_rfl) (by kernel_rfl) (r39z h), fun val h => leaf h trivial (by kernel_rfl) (by kernel_rfl) (by kernel_rfl) (by kernel_rfl) (by kernel_rfl) (r39n h), fun val h => leaf h trivial (by kernel_rfl) (by kernel_rfl) (by kernel_rfl) (by kernel_rfl) (by kernel_rfl) (r39s1 h), fun val h => leaf h trivial (by kernel_rfl) (by kernel_rfl) (by kernel_rfl) (by kernel_rfl) (by kernel_rfl) (r39s2 h), fun val h => leaf h trivial (by kernel_rfl) (by kernel_rfl) (by kernel_rfl) (by kernel_rfl) (by kernel_rfl) (r39s4 h), fun val h => leaf h trivial (by kernel_rfl) (by kernel_rfl) (by kernel_rfl) (by kernel_rfl) (by kernel_rfl) (r39s8 h)⟩

theorem r44z {val : Nat → Int} (h : Holds val [lenF 44]) : runL val _ h 44 (a 2) tabZ = true := by kernel_rfl
theorem r44n {val : Nat → Int} (h : Holds val [lenF 44]) : runL val _ h 44 (a 2) tabN = true := by kernel_rfl
theorem r44s1 {val : Nat → Int} (h : Holds val (lenF 44 :: eqs 1)) : runL val _ h 44 (ci 1) (tabS 1) = true := by kernel_rfl
theorem r44s2 {val : Nat → Int} (h : Holds val (lenF 44 :: eqs 2)) : runL val _ h 44 (ci 2) (tabS 2) = true := by kernel_rfl
theorem r44s4 {val : Nat → Int} (h : Holds val (lenF 44 :: eqs 4)) : runL val _ h 44 (ci 4) (tabS 4) = true := by kernel_rfl
theorem r44s8 {val : Nat → Int} (h : Holds val (lenF 44 :: eqs 8)) : runL val _ h 44 (ci 8) (tabS 8) = true := by kernel_rfl
theorem d44 : DL 44 := ⟨fun val h => leaf h trivial (by kernel_rfl) (by kernel_rfl) (by kernel_rfl) (by kernel_rfl) (by kernel_rfl) (r44z h), fun val h => leaf h trivial (by kernel_rfl) (by kernel_rfl) (by kernel_rfl) (by kernel_rfl) (by kernel_rfl) (r44n h), fun val h => leaf h trivial (by kernel_rfl) (by kernel_rfl) (by kernel_rfl) (by kernel_rfl) (by kernel_rfl) (r44s1 h), fun val h => leaf h trivial (by kernel_rfl) (by kernel_rfl) (by kernel_rfl) (by kernel_rfl) (by kernel_rfl) (r44s2 h), fun val h => leaf h trivial (by kernel_rfl) (by kernel_rfl) (by kernel_rfl) (by kernel_rfl) (by kernel_rfl) (r44s4 h), fun val h => leaf h trivial (by kernel_rfl) (by kernel_rfl) (by kernel_rfl) (by kernel_rfl) (by kernel_rfl) (r44s8 h)⟩

theorem r49z {val : Nat → Int} (h : Holds val [lenF 49]) : runL val _ h 49 (a 2) tabZ = true := by kernel_rfl
theorem r49n {val : Nat → Int} (h : Holds val [lenF 49]) : runL val _ h 49 (a 2) tabN = true := by kernel_rfl
theorem r49s1 {val : Nat → Int} (h : Holds val (lenF 49 :: eqs 1)) : runL val _ h 49 (ci 1) (tabS 1) = true := by kernel_rfl
theorem r49s2 {val : Nat → Int} (h : Holds val (lenF 49 :: eqs 2)) : runL val _ h 49 (ci 2) (tabS 2) = true := by kernel_rfl
theorem r49s4 {val : Nat → Int} (h : Holds val (lenF 49 :: eqs 4)) : runL val _ h 49 (ci 4) (tabS 4) = true := by kernel_rfl
theorem r49s8 {val : Nat → Int} (h : Holds val (lenF 49 :: eqs 8)) : runL val _ h 49 (ci 8) (tabS 8) = true := by kernel_rfl
theorem d49 : DL 49 := ⟨fun val h => leaf h trivial (by kernel_rfl) (by kernel_rfl) (by kernel_rfl) (by kernel_rfl) (by kernel_rfl) (r49z h), fun val h => leaf h trivial (by kernel_rfl) (by kernel_rfl) (by kernel_rfl) (by kernel_rfl) (by kernel_rfl) (r49n h), fun val h => leaf h trivial (by kernel_rfl) (by kernel_rfl) (by kernel_rfl) (by kernel_rfl) (by kernel_rfl) (r49s1 h), fun val h => leaf h trivial (by kernel_rfl) (by kernel_rfl) (by kernel_rfl) (by kernel_rfl) (by kernel_rfl) (r49s2 h), fun val h => leaf h trivial (by kernel_rfl) (by kernel_rfl) (by kernel_rfl) (by kernel_rfl) (by kernel_rfl) (r49s4 h), fun val h => leaf h trivial (by kernel_rfl) (by kernel_rfl) (by kernel_rfl) (by kernel_rfl) (by kernel_rfl) (r49s8 h)⟩

theorem r54z {val : Nat → Int} (h : Holds val [lenF 54]) : runL val _ h 54 (a 2) tabZ = true := by kernel_rfl
theorem r54n {val : Nat → Int} (h : Holds val [lenF 54]) : runL val _ h 54 (a 2) tabN = true := by kernel_rfl
theorem r54s1 {val : Nat → Int} (h : Holds val (lenF 54 :: eqs 1)) : runL val _ h 54 (ci 1) (tabS 1) = true := by kernel_rfl
theorem r54s2 {val : Nat → Int} (h : Holds val (lenF 54 :: eqs 2)) : runL val _ h 54 (ci 2) (tabS 2) = true := by kernel_rfl
theorem r54s4 {val : Nat → Int} (h : Holds val (lenF 54 :: eqs 4)) : runL val _ h 54 (ci 4) (tabS 4) = true := by kernel_rfl
theorem r54s8 {val : Nat → Int} (h : Holds val (lenF 54 :: eqs 8)) : runL val _ h 54 (ci 8) (tabS 8) = true := by kernel_rfl
theorem d54 : DL 54 := ⟨fun val h => leaf h trivial (by kernel_rfl) (by kernel_rfl) (by kernel_rfl) (by kernel_rfl) (by kernel_rfl) (r54z h), fun val h => leaf h trivial (by kernel_rfl) (by kernel_rfl) (by kernel_rfl) (by kernel_rfl) (by kernel_rfl) (r54n h), fun val h => leaf h trivial (by kernel_rfl) (by kernel_rfl) (by kernel_rfl) (by kernel_rfl) (by kernel_rfl) (r54s1 h), fun val h => leaf h trivial (by kernel_rfl) (by kernel_rfl) (by kernel_rfl) (by kernel_rfl) (by kernel_rfl) (r54s2 h), fun val h => leaf h trivial (by kernel_rfl) (by kernel_rfl) (by kernel_rfl) (by kernel_rfl) (by kernel_rfl) (r54s4 h), fun val h => leaf h trivial (by kernel_rfl) (by kernel_rfl) (by kernel_rfl) (by kernel_rfl) (by kernel_rfl) (r54s8 h)⟩

theorem r59z {val : Nat → Int} (h : Holds val [lenF 59]) : runL val _ h 59 (a 2) tabZ = true := by kernel_rfl
theorem r59n {val : Nat → Int} (h : Holds val [lenF 59]) : runL val _ h 59 (a 2) tabN = true := by kernel_rfl
theorem r59s1 {val : Nat → Int} (h : Holds val (lenF 59 :: eqs 1)) : runL val _ h 59 (ci 1) (tabS 1) = true := by kernel_rfl
theorem r59s2 {val : Nat → Int} (h : Holds val (lenF 59 :: eqs 2)) : runL val _ h 59 (ci 2) (tabS 2) = true := by kernel_rfl
theorem r59s4 {val : Nat → Int} (h : Holds val (lenF 59 :: eqs 4)) : runL val _ h 59 (ci 4) (tabS 4) = true := by kernel_rfl
theorem r59s8 {val : Nat → Int} (h : Holds val (lenF 59 :: eqs 8)) : runL val _ h 59 (ci 8) (tabS 8) = true := by kernel_rfl
theorem d59 : DL 59 := ⟨fun val h => leaf h trivial (by kernel_rfl) (by kernel_rfl) (by kernel_rfl) (by kernel_rfl) (by kernel_rfl) (r59z h), fun val h => leaf h trivial (by kernel_rfl) (by kernel_rfl) (by kernel_rfl) (by kernel_rfl) (by kernel_rfl) (r59n h), fun val h => leaf h trivial (by kernel_rfl) (by kernel_rfl) (by kernel_rfl) (by kernel_rfl) (by kernel_rfl) (r59s1 h), fun val h => leaf h trivial (by kernel_rfl) (by kernel_rfl) (by kernel_rfl) (by kernel_rfl) (by kernel_rfl) (r59s2 h), fun val h => leaf h trivial (by kernel_rfl) (by kernel_rfl) (by kernel_rfl) (by kernel_rfl) (by kernel_rfl) (r59s4 h), fun val h => leaf h trivial (by kernel_rfl) (by kernel_rfl) (by kernel_rfl) (by kernel_rfl) (by kernel_rfl) (r59s8 h)⟩

theorem r64z {val : Nat → Int} (h : Holds val [lenF 64]) : runL val _ h 64 (a 2) tabZ = true := by kernel_rfl
theorem r64n {val : Nat → Int} (h : Holds val [lenF 64]) : runL val _ h 64 (a 2) tabN = true := by kernel_rfl
theorem r64s1 {val : Nat → Int} (h : Holds val (lenF 64 :: eqs 1)) : runL val _ h 64 (ci 1) (tabS 1) = true := by kernel_rfl
theorem r64s2 {val : Nat → Int} (h : Holds val (lenF 64 :: eqs 2)) : runL val _ h 64 (ci 2) (tabS 2) = true := by kernel_rfl
theorem r64s4 {val : Nat → Int} (h : Holds val (lenF 64 :: eqs 4)) : runL val _ h 64 (ci 4) (tabS 4) = true := by kernel_rfl
theorem r64s8 {val : Nat → Int} (h : Holds val (lenF 64 :: eqs 8)) : runL val _ h 64 (ci 8) (tabS 8) = true := by kernel_rfl
theorem d64 : DL 64 := ⟨fun val h => leaf h trivial (by kernel_rfl) (by kernel_rfl) (by kernel_rfl) (by kernel_rfl) (by kernel_rfl) (r64z h), fun val h => leaf h trivial (by kernel_rfl) (by kernel_rfl) (by kernel_rfl) (by kernel_rfl) (by kernel_rfl) (r64n h), fun val h => leaf h trivial (by kernel_rfl) (by kernel_rfl) (by kernel_rfl) (by kernel_rfl) (by kernel_rfl) (r64s1 h), fun val h => leaf h trivial (by kernel_rfl) (by kernel_rfl) (by kernel_rfl) (by kernel_rfl) (by kernel_rfl) (r64s2 h), fun val h => leaf h trivial (by kernel_rfl) (by kernel_rfl) (by kernel_rfl) (by kernel_rfl) (by kernel_rfl) (r64s4 h), fun val h => leaf h trivial (by kernel_rfl) (by kernel_rfl) (by kernel_rfl) (by kernel_rfl) (by kernel_rfl) (r64s8 h)⟩

theorem r69z {val : Nat → Int} (h : Holds val [lenF 69]) : runL val _ h 69 (a 2) tabZ = true := by kernel_rfl
theorem r69n {val : Nat → Int} (h : Holds val [lenF 69]) : runL val _ h 69 (a 2) tabN = true := by kernel_rfl
theorem r69s1 {val : Nat → Int} (h : Holds val (lenF 69 :: eqs 1)) : runL val _ h 69 (ci 1) (tabS 1) = true := by kernel_rfl
theorem r69s2 {val : Nat → Int} (h : Holds val (lenF 69 :: eqs 2)) : runL val _ h 69 (ci 2) (tabS 2) = true := by kernel_rfl
theorem r69s4 {val : Nat → Int} (h : Holds val (lenF 69 :: eqs 4)) : runL val _ h 69 (ci 4) (tabS 4) = true := by kernel_rfl
theorem r69s8 {val : Nat → Int} (h : Holds val (lenF 69 :: eqs 8)) : runL val _ h 69 (ci 8) (tabS 8) = true := by kernel_rfl
theorem d69 : DL 69 := ⟨fun val h => leaf h trivial (by kernel_rfl) (by kernel_rfl) (by kernel_rfl) (by kernel_rfl) (by kernel_rfl) (r69z h), fun val h => leaf h trivial (by kernel_rfl) (by kernel_rfl) (by kernel_rfl) (by kernel_rfl) (by kernel_rfl) (r69n h), fun val h => leaf h trivial (by kernel_rfl) (by kernel_rfl) (by kernel_rfl) (by kernel_rfl) (by kernel_rfl) (r69s1 h), fun val h => leaf h trivial (by kernel_rfl) (by kernel_rfl) (by kernel_rfl) (by kernel_rfl) (by kernel_rfl) (r69s2 h), fun val h => leaf h trivial (by kernel_rfl) (by kernel_rfl) (by kernel_rfl) (by kernel_rfl) (by kernel_rfl) (r69s4 h), fun val h => leaf h trivial (by kernel_rfl) (by kernel_rfl) (by kernel_rfl) (by kernel_rfl) (by kernel_rfl) (r69s8 h)⟩

theorem r74z {val : Nat → Int} (h : Holds val [lenF 74]) : runL val _ h 74 (a 2) tabZ = true := by kernel_rfl
theorem r74n {val : Nat → Int} (h : Holds val [lenF 74]) : runL val _ h 74 (a 2) tabN = true := by kernel_rfl
theorem r74s1 {val : Nat → Int} (h : Holds val (lenF 74 :: eqs 1)) : runL val _ h 74 (ci 1) (tabS 1) = true := by kernel_rfl
theorem r74s2 {val : Nat → Int} (h : Holds val (lenF 74 :: eqs 2)) : runL val _ h 74 (ci 2) (tabS 2) = true := by kernel_rfl
theorem r74s4 {val : Nat → Int} (h : Holds val (lenF 74 :: eqs 4)) : runL val _ h 74 (ci 4) (tabS 4) = true := by kernel_rfl
theorem r74s8 {val : Nat → Int} (h : Holds val (lenF 74 :: eqs 8)) : runL val _ h 74 (ci 8) (tabS 8) = true := by kernel_rfl
theorem d74 : DL 74 := ⟨fun val h => leaf h trivial (by kernel_rfl) (by kernel_rfl) (by kernel_rfl) (by kernel_rfl) (by kernel_rfl) (r74z h), fun val h => leaf h trivial (by kernel_rfl) (by kernel_rfl) (by kernel_rfl) (by kernel_rfl) (by kernel_rfl) (r74n h), fun val h => leaf h trivial (by kernel_rfl) (by kernel_rfl) (by kernel_rfl) (by kernel_rfl) (by kernel_rfl) (r74s1 h), fun val h => leaf h trivial (by kernel_rfl) (by kernel_rfl) (by kernel_rfl) (by kernel_rfl) (by kernel_rfl) (r74s2 h), fun val h => leaf h trivial (by kernel_rfl) (by kernel_rfl) (by kernel_rfl) (by kernel_rfl) (by kernel_rfl) (r74s4 h), fun val h => leaf h trivial (by kernel_rfl) (by kernel_rfl) (by kernel_rfl) (by kernel_rfl) (by kernel_rfl) (r74s8 h)⟩

theorem r79z {val : Nat → Int} (h : Holds val [lenF 79]) : runL val _ h 79 (a 2) tabZ = true := by kernel_rfl
theorem r79n {val : Nat → Int} (h : Holds val [lenF 79]) : runL val _ h 79 (a 2) tabN = true := by kernel_rfl
theorem r79s1 {val : Nat → Int} (h : Holds val (lenF 79 :: eqs 1)) : runL val _ h 79 (ci 1) (tabS 1) = true := by kernel_rfl
theorem r79s2 {val : Nat → Int} (h : Holds val (lenF 79 :: eqs 2)) : runL val _ h 79 (ci 2) (tabS 2) = true := by kernel_rfl
theorem r79s4 {val : Nat → Int} (h : Holds val (lenF 79 :: eqs 4)) : runL val _ h 79 (ci 4) (tabS 4) = true := by kernel_rfl
theorem r79s8 {val : Nat → Int} (h : Holds val (lenF 79 :: eqs 8)) : runL val _ h 79 (ci 8) (tabS 8) = true := by kernel_rfl
theorem d79 : DL 79 := ⟨fun val h => leaf h trivial (by kernel_rfl) (by kernel_rfl) (by kernel_rfl) (by kernel_rfl) (by kernel_rfl) (r79z h), fun val h => leaf h trivial (by kernel_rfl) (by kernel_rfl) (by kernel_rfl) (by kernel_rfl) (by kernel_rfl) (r79n h), fun val h => leaf h trivial (by kernel_rfl) (by kernel_rfl) (by kernel_rfl) (by kernel_rfl) (by kernel_rfl) (r79s1 h), fun val h => leaf h trivial (by kernel_rfl) (by kernel_rfl) (by kernel_rfl) (by kernel_rfl) (by kernel_rfl) (r79s2 h), fun val h => leaf h trivial (by kernel_rfl) (by kernel_rfl) (by kernel_rfl) (by kernel_rfl) (by kernel_rfl) (r79s4 h), fun val h => leaf h trivial (by kernel_rfl) (by kernel_rfl) (by kernel_rfl) (by kernel_rfl) (by kernel_rfl) (r79s8 h)⟩

theorem r84z {val : Nat → Int} (h : Holds val [lenF 84]) : runL val _ h 84 (a 2) tabZ = true := by kernel_rfl
theorem r84n {val : Nat → Int} (h : Holds val [lenF 84]) : runL val _ h 84 (a 2) tabN = true := by kernel_rfl
theorem r84s1 {val : Nat → Int} (h : Holds val (lenF 84 :: eqs 1)) : runL val _ h 84 (ci 1) (tabS 1) = true := by kernel_rfl
theorem r84s2 {val : Nat → Int} (h : Holds val (lenF 84 :: eqs 2)) : runL val _ h 84 (ci 2) (tabS 2) = true := by kernel_rfl
theorem r84s4 {val : Nat → Int} (h : Holds val (lenF 84 :: eqs 4)) : runL val _ h 84 (ci 4) (tabS 4) = true := by kernel_rfl
theorem r84s8 {val : Nat → Int} (h : Holds val (lenF 84 :: eqs 8)) : runL val _ h 84 (ci 8) (tabS 8) = true := by kernel_rfl
theorem d84 : DL 84 := ⟨fun val h => leaf h trivial (by kernel_rfl) (by kernel_rfl) (by kernel_rfl) (by kernel_rfl) (by kernel_rfl) (r84z h), fun val h => leaf h trivial (by kernel_rfl) (by kernel_rfl) (by kernel_rfl) (by kernel_rfl) (by kernel_rfl) (r84n h), fun val h => leaf h trivial (by kernel_rfl) (by kernel_rfl) (by kernel_rfl) (by kernel_rfl) (by kernel_rfl) (r84s1 h), fun val h => leaf h trivial (by kernel_rfl) (by kernel_rfl) (by kernel_rfl) (by kernel_rfl) (by kernel_rfl) (r84s2 h), fun val h => leaf h trivial (by kernel_rfl) (by kernel_rfl) (by kernel_rfl) (by kernel_rfl) (by kernel_rfl) (r84s4 h), fun val h => leaf h trivial (by kernel_rfl) (by kernel_rfl) (by kernel_rfl) (by kernel_rfl) (by kernel_rfl) (r84s8 h)⟩

theorem r89z {val : Nat → Int} (h : Holds val [lenF 89]) : runL val _ h 89 (a 2) tabZ = true := by kernel_rfl
theorem r89n {val : Nat → Int} (h : Holds val [lenF 89]) : runL val _ h 89 (a 2) tabN = true := by kernel_rfl
theorem r89s1 {val : Nat → Int} (h : Holds val (lenF 89 :: eqs 1)) : runL val _ h 89 (ci 1) (tabS 1) = true := by kernel_rfl
theorem r89s2 {val : Nat → Int} (h : Holds val (lenF 89 :: eqs 2)) : runL val _ h 89 (ci 2) (tabS 2) = true := by kernel_rfl
theorem r89s4 {val : Nat → Int} (h : Holds val (lenF 89 :: eqs 4)) : runL val _ h 89 (ci 4) (tabS 4) = true := by kernel_rfl
theorem r89s8 {val : Nat → Int} (h : Holds val (lenF 89 :: eqs 8)) : runL val _ h 89 (ci 8) (tabS 8) = true := by kernel_rfl
theorem d89 : DL 89 := ⟨fun val h => leaf h trivial (by kernel_rfl) (by kernel_rfl) (by kernel_rfl) (by kernel_rfl) (by kernel_rfl) (r89z h), fun val h => leaf h trivial (by kernel_rfl) (by kernel_rfl) (by kernel_rfl) (by kernel_rfl) (by kernel_rfl) (r89n h), fun val h => leaf h trivial (by kernel_rfl) (by kernel_rfl) (by kernel_rfl) (by kernel_rfl) (by kernel_rfl) (r89s1 h), fun val h => leaf h trivial (by kernel_rfl) (by kernel_rfl) (by kernel_rfl) (by kernel_rfl) (by kernel_rfl) (r89s2 h), fun val h => leaf h trivial (by kernel_rfl) (by kernel_rfl) (by kernel_rfl) (by kernel_rfl) (by kernel_rfl) (r89s4 h), fun val h => leaf h trivial (by kernel_rfl) (by kernel_rfl) (by kernel_rfl) (by kernel_rfl) (by kernel_rfl) (r89s8 h)⟩

theorem r94z {val : Nat → Int} (h : Holds val [lenF 94]) : runL val _ h 94 (a 2) tabZ = true := by kernel_rfl
theorem r94n {val : Nat → Int} (h : Holds val [lenF 94]) : runL val _ h 94 (a 2) tabN = true := by kernel_rfl
theorem r94s1 {val : Nat → Int} (h : Holds val (lenF 94 :: eqs 1)) : runL val _ h 94 (ci 1) (tabS 1) = true := by kernel_rfl
theorem r94s2 {val : Nat → Int} (h : Holds val (lenF 94 :: eqs 2)) : runL val _ h 94 (ci 2) (tabS 2) = true := by kernel_rfl
theorem r94s4 {val : Nat → Int} (h : Holds val (lenF 94 :: eqs 4)) : runL val _ h 94 (ci 4) (tabS 4) = true := by kernel_rfl
theorem r94s8 {val : Nat → Int} (h : Holds val (lenF 94 :: eqs 8)) : runL val _ h 94 (ci 8) (tabS 8) = true := by kernel_rfl
theorem d94 : DL 94 := ⟨fun val h => leaf h trivial (by kernel_rfl) (by kernel_rfl) (by kernel_rfl) (by kernel_rfl) (by kernel_rfl) (r94z h), fun val h => leaf h trivial (by kernel_rfl) (by kernel_rfl) (by kernel_rfl) (by kernel_rfl) (by kernel_rfl) (r94n h), fun val h => leaf h trivial (by kernel_rfl) (by kernel_rfl) (by kernel_rfl) (by kernel_rfl) (by kernel_rfl) (r94s1 h), fun val h => leaf h trivial (by kernel_rfl) (by kernel_rfl) (by kernel_rfl) (by kernel_rfl) (by kernel_rfl) (r94s2 h), fun val h => leaf h trivial (by kernel_rfl) (by kernel_rfl) (by kernel_rfl) (by kernel_rfl) (by kernel_rfl) (r94s4 h), fun val h => leaf h trivial (by kernel_rfl) (by kernel_rfl) (by kernel_rfl) (by kernel_rfl) (by kernel_rfl) (r94s8 h)⟩

theorem r99z {val : Nat → Int} (h : Holds val [lenF 99]) : runL val _ h 99 (a 2) tabZ = true := by kernel_rfl
theorem r99n {val : Nat → Int} (h : Holds val [lenF 99]) : runL val _ h 99 (a 2) tabN = true := by kernel_rfl
theorem r99s1 {val : Nat → Int} (h : Holds val (lenF 99 :: eqs 1)) : runL val _ h 99 (ci 1) (tabS 1) = true := by kernel_rfl
theorem r99s2 {val : Nat → Int} (h : Holds val (lenF 99 :: eqs 2)) : runL val _ h 99 (ci 2) (tabS 2) = true := by kernel_rfl
theorem r99s4 {val : Nat → Int} (h : Holds val (lenF 99 :: eqs 4)) : runL val _ h 99 (ci 4) (tabS 4) = true := by kernel_rfl
theorem r99s8 {val : Nat → Int} (h : Holds val (lenF 99 :: eqs 8)) : runL val _ h 99 (ci 8) (tabS 8) = true := by kernel_rfl
theorem d99 : DL 99 := ⟨fun val h => leaf h trivial (by kernel_rfl) (by kernel_rfl) (by kernel_rfl) (by kernel_rfl) (by kernel_rfl) (r99z h), fun val h => leaf h trivial (by kernel_rfl) (by kernel_rfl) (by kernel_rfl) (by kernel_rfl) (by kernel_rfl) (r99n h), fun val h => leaf h trivial (by kernel_rfl) (by kernel_rfl) (by kernel_rfl) (by kernel_rfl) (by kernel_rfl) (r99s1 h), fun val h => leaf h trivial (by kernel_rfl) (by kernel_rfl) (by kernel_rfl) (by kernel_rfl) (by kernel_rfl) (r99s2 h), fun val h => leaf h trivial (by kernel_rfl) (by kernel_rfl) (by kernel_rfl) (by kernel_rfl) (by kernel_rfl) (r99s4 h), fun val h => leaf h trivial (by kernel_rfl) (by kernel_rfl) (by kernel_rfl) (by kernel_rfl) (by kernel_rfl) (r99s8 h)⟩

end Go.Proofs.Ytclgmeoofmidfaa.TellsL
