/-
  The law 'FieldTells', by lengths: each way, run.
-/
import Derived.Test.YtclgmeoofmidfaaTellsH
namespace Go.Proofs.Ytclgmeoofmidfaa.TellsL
open Go.Sim Go.Proofs.Ytclgmeoofmidfaa.Fld
set_option maxRecDepth 100000

theorem r1z {val : Nat → Int} (h : Holds val [lenF 1]) : runL val _ h 1 (a 2) tabZ = true := by kernel_rfl
theorem r1n {val : Nat → Int} (h : Holds val [lenF 1]) : runL val _ h 1 (a 2) tabN = true := by kernel_rfl
theorem r1s1 {val : Nat → Int} (h : Holds val (lenF 1 :: eqs 1)) : runL val _ h 1 (ci 1) (tabS 1) = true := by kernel_rfl
theorem r1s2 {val : Nat → Int} (h : Holds val (lenF 1 :: eqs 2)) : runL val _ h 1 (ci 2) (tabS 2) = true := by kernel_rfl
theorem r1s4 {val : Nat → Int} (h : Holds val (lenF 1 :: eqs 4)) : runL val _ h 1 (ci 4) (tabS 4) = true := by kernel_rfl
theorem r1s8 {val : Nat → Int} (h : Holds val (lenF 1 :: eqs 8)) : runL val _ h 1 (ci 8) (tabS 8) = true := by kernel_rfl
theorem d1 : DL 1 := ⟨fun val h => leaf h trivial (by kernel_rfl) (by kernel_rfl) (by kernel_rfl) (by kernel_rfl) (by kernel_rfl) (r1z h), fun val h => leaf h trivial (by kernel_rfl) (by kernel_rfl) (by kernel_rfl) (by kernel_rfl) (by kernel_rfl) (r1n h), fun val h => leaf h trivial (by kernel_rfl) (by kernel_rfl) (by kernel_rfl) (by kernel_rfl) (by kernel_rfl) (r1s1 h), fun val h => leaf h trivial (by kernel_rfl) (by kernel_rfl) (by kernel_rfl) (by kernel_rfl) (by kernel_rfl) (r1s2 h), fun val h => leaf h trivial (by kernel_rfl) (by kernel_rfl) (by kernel_rfl) (by kernel_rfl) (by kernel_rfl) (r1s4 h), fun val h => leaf h trivial (by kernel_rfl) (by kernel_rfl) (by kernel_rfl) (by kernel_rfl) (by kernel_rfl) (r1s8 h)⟩

theorem r6z {val : Nat → Int} (h : Holds val [lenF 6]) : runL val _ h 6 (a 2) tabZ = true := by kernel_rfl
theorem r6n {val : Nat → Int} (h : Holds val [lenF 6]) : runL val _ h 6 (a 2) tabN = true := by kernel_rfl
theorem r6s1 {val : Nat → Int} (h : Holds val (lenF 6 :: eqs 1)) : runL val _ h 6 (ci 1) (tabS 1) = true := by kernel_rfl
theorem r6s2 {val : Nat → Int} (h : Holds val (lenF 6 :: eqs 2)) : runL val _ h 6 (ci 2) (tabS 2) = true := by kernel_rfl
theorem r6s4 {val : Nat → Int} (h : Holds val (lenF 6 :: eqs 4)) : runL val _ h 6 (ci 4) (tabS 4) = true := by kernel_rfl
theorem r6s8 {val : Nat → Int} (h : Holds val (lenF 6 :: eqs 8)) : runL val _ h 6 (ci 8) (tabS 8) = true := by kernel_rfl
theorem d6 : DL 6 := ⟨fun val h => leaf h trivial (by kernel_rfl) (by kernel_rfl) (by kernel_rfl) (by kernel_rfl) (by kernel_rfl) (r6z h), fun val h => leaf h trivial (by kernel_rfl) (by kernel_rfl) (by kernel_rfl) (by kernel_rfl) (by kernel_rfl) (r6n h), fun val h => leaf h trivial (by kernel_rfl) (by kernel_rfl) (by kernel_rfl) (by kernel_rfl) (by kernel_rfl) (r6s1 h), fun val h => leaf h trivial (by kernel_rfl) (by kernel_rfl) (by kernel_rfl) (by kernel_rfl) (by kernel_rfl) (r6s2 h), fun val h => leaf h trivial (by kernel_rfl) (by kernel_rfl) (by kernel_rfl) (by kernel_rfl) (by kernel_rfl) (r6s4 h), fun val h => leaf h trivial (by kernel_rfl) (by kernel_rfl) (by kernel_rfl) (by kernel_rfl) (by kernel_rfl) (r6s8 h)⟩

theorem r11z {val : Nat → Int} (h : Holds val [lenF 11]) : runL val _ h 11 (a 2) tabZ = true := by kernel_rfl
theorem r11n {val : Nat → Int} (h : Holds val [lenF 11]) : runL val _ h 11 (a 2) tabN = true := by kernel_rfl
theorem r11s1 {val : Nat → Int} (h : Holds val (lenF 11 :: eqs 1)) : runL val _ h 11 (ci 1) (tabS 1) = true := by kernel_rfl
theorem r11s2 {val : Nat → Int} (h : Holds val (lenF 11 :: eqs 2)) : runL val _ h 11 (ci 2) (tabS 2) = true := by kernel_rfl
theorem r11s4 {val : Nat → Int} (h : Holds val (lenF 11 :: eqs 4)) : runL val _ h 11 (ci 4) (tabS 4) = true := by kernel_rfl
theorem r11s8 {val : Nat → Int} (h : Holds val (lenF 11 :: eqs 8)) : runL val _ h 11 (ci 8) (tabS 8) = true := by kernel_rfl
theorem d11 : DL 11 := ⟨fun val h => leaf h trivial (by kernel_rfl) (by kernel_rfl) (by kernel_rfl) (by kernel_rfl) (by kernel_rfl) (r11z h), fun val h => leaf h trivial (by kernel_rfl) (by kernel_rfl) (by kernel_rfl) (by kernel_rfl) (by kernel_rfl) (r11n h), fun val h => leaf h trivial (by kernel_rfl) (by kernel_rfl) (by kernel_rfl) (by kernel_rfl) (by kernel_rfl) (r11s1 h), fun val h => leaf h trivial (by kernel_rfl) (by kernel_rfl) (by kernel_rfl) (by kernel_rfl) (by kernel_rfl) (r11s2 h), fun val h => leaf h trivial (by kernel_rfl) (by kernel_rfl) (by kernel_rfl) (by kernel_rfl) (by kernel_rfl) (r11s4 h), fun val h => leaf h trivial (by kernel_rfl) (by kernel_rfl) (by kernel_rfl) (by kernel_rfl) (by kernel_rfl) (r11s8 h)⟩

theorem r16z {val : Nat → Int} (h : Holds val [lenF 16]) : runL val _ h 16 (a 2) tabZ = true := by kernel_rfl
theorem r16n {val : Nat → Int} (h : Holds val [lenF 16]) : runL val _ h 16 (a 2) tabN = true := by kernel_rfl
theorem r16s1 {val : Nat → Int} (h : Holds val (lenF 16 :: eqs 1)) : runL val _ h 16 (ci 1) (tabS 1) = true := by kernel_rfl
theorem r16s2 {val : Nat → Int} (h : Holds val (lenF 16 :: eqs 2)) : runL val _ h 16 (ci 2) (tabS 2) = true := by kernel_rfl
theorem r16s4 {val : Nat → Int} (h : Holds val (lenF 16 :: eqs 4)) : runL val _ h 16 (ci 4) (tabS 4) = true := by kernel_rfl
theorem r16s8 {val : Nat → Int} (h : Holds val (lenF 16 :: eqs 8)) : runL val _ h 16 (ci 8) (tabS 8) = true := by kernel_rfl
theorem d16 : DL 16 := ⟨fun val h => leaf h trivial (by kernel_rfl) (by kernel_rfl) (by kernel_rfl) (by kernel_rfl) (by kernel_rfl) (r16z h), fun val h => leaf h trivial (by kernel_rfl) (by kernel_rfl) (by kernel_rfl) (by kernel_rfl) (by kernel_rfl) (r16n h), fun val h => leaf h trivial (by kernel_rfl) (by kernel_rfl) (by kernel_rfl) (by kernel_rfl) (by kernel_rfl) (r16s1 h), fun val h => leaf h trivial (by kernel_rfl) (by kernel_rfl) (by kernel_rfl) (by kernel_rfl) (by kernel_rfl) (r16s2 h), fun val h => leaf h trivial (by kernel_rfl) (by kernel_rfl) (by kernel_rfl) (by kernel_rfl) (by kernel_rfl) (r16s4 h), fun val h => leaf h trivial (by kernel_rfl) (by kernel_rfl) (by kernel_rfl) (by kernel_rfl) (by kernel_rfl) (r16s8 h)⟩

theorem r21z {val : Nat → Int} (h : Holds val [lenF 21]) : runL val _ h 21 (a 2) tabZ = true := by kernel_rfl
theorem r21n {val : Nat → Int} (h : Holds val [lenF 21]) : runL val _ h 21 (a 2) tabN = true := by kernel_rfl
theorem r21s1 {val : Nat → Int} (h : Holds val (lenF 21 :: eqs 1)) : runL val _ h 21 (ci 1) (tabS 1) = true := by kernel_rfl
theorem r21s2 {val : Nat → Int} (h : Holds val (lenF 21 :: eqs 2)) : runL val _ h 21 (ci 2) (tabS 2) = true := by kernel_rfl
theorem r21s4 {val : Nat → Int} (h : Holds val (lenF 21 :: eqs 4)) : runL val _ h 21 (ci 4) (tabS 4) = true := by kernel_rfl
theorem r21s8 {val : Nat → Int} (h : Holds val (lenF 21 :: eqs 8)) : runL val _ h 21 (ci 8) (tabS 8) = true := by kernel_rfl
theorem d21 : DL 21 := ⟨fun val h => leaf h trivial (by kernel_rfl) (by kernel_rfl) (by kernel_rfl) (by kernel_rfl) (by kernel_rfl) (r21z h), fun val h => leaf h trivial (by kernel_rfl) (by kernel_rfl) (by kernel_rfl) (by kernel_rfl) (by kernel_rfl) (r21n h), fun val h => leaf h trivial (by kernel_rfl) (by kernel_rfl) (by kernel_rfl) (by kernel_rfl) (by kernel_rfl) (r21s1 h), fun val h => leaf h trivial (by kernel_rfl) (by kernel_rfl) (by kernel_rfl) (by kernel_rfl) (by kernel_rfl) (r21s2 h), fun val h => leaf h trivial (by kernel_rfl) (by kernel_rfl) (by kernel_rfl) (by kernel_rfl) (by kernel_rfl) (r21s4 h), fun val h => leaf h trivial (by kernel_rfl) (by kernel_rfl) (by kernel_rfl) (by kernel_rfl) (by kernel_rfl) (r21s8 h)⟩

theorem r26z {val : Nat → Int} (h : Holds val [lenF 26]) : runL val _ h 26 (a 2) tabZ = true := by kernel_rfl
theorem r26n {val : Nat → Int} (h : Holds val [lenF 26]) : runL val _ h 26 (a 2) tabN = true := by kernel_rfl
theorem r26s1 {val : Nat → Int} (h : Holds val (lenF 26 :: eqs 1)) : runL val _ h 26 (ci 1) (tabS 1) = true := by kernel_rfl
theorem r26s2 {val : Nat → Int} (h : Holds val (lenF 26 :: eqs 2)) : runL val _ h 26 (ci 2) (tabS 2) = true := by kernel_rfl
theorem r26s4 {val : Nat → Int} (h : Holds val (lenF 26 :: eqs 4)) : runL val _ h 26 (ci 4) (tabS 4) = true := by kernel_rfl
theorem r26s8 {val : Nat → Int} (h : Holds val (lenF 26 :: eqs 8)) : runL val _ h 26 (ci 8) (tabS 8) = true := by kernel_rfl
theorem d26 : DL 26 := ⟨fun val h => leaf h trivial (by kernel_rfl) (by kernel_rfl) (by kernel_rfl) (by kernel_rfl) (by kernel_rfl) (r26z h), fun val h => leaf h trivial (by kernel_rfl) (by kernel_rfl) (by kernel_rfl) (by kernel_rfl) (by kernel_rfl) (r26n h), fun val h => leaf h trivial (by kernel_rfl) (by kernel_rfl) (by kernel_rfl) (by kernel_rfl) (by kernel_rfl) (r26s1 h), fun val h => leaf h trivial (by kernel_rfl) (by kernel_rfl) (by kernel_rfl) (by kernel_rfl) (by kernel_rfl) (r26s2 h), fun val h => leaf h trivial (by kernel_rfl) (by kernel_rfl) (by kernel_rfl) (by kernel_rfl) (by kernel_rfl) (r26s4 h), fun val h => leaf h trivial (by kernel_rfl) (by kernel_rfl) (by kernel_rfl) (by kernel_rfl) (by kernel_rfl) (r26s8 h)⟩

theorem r31z {val : Nat → Int} (h : Holds val [lenF 31]) : runL val _ h 31 (a 2) tabZ = true := by kernel_rfl
theorem r31n {val : Nat → Int} (h : Holds val [lenF 31]) : runL val _ h 31 (a 2) tabN = true := by kernel_rfl
theorem r31s1 {val : Nat → Int} (h : Holds val (lenF 31 :: eqs 1)) : runL val _ h 31 (ci 1) (tabS 1) = true := by kernel_rfl
theorem r31s2 {val : Nat → Int} (h : Holds val (lenF 31 :: eqs 2)) : runL val _ h 31 (ci 2) (tabS 2) = true := by kernel_rfl
theorem r31s4 {val : Nat → Int} (h : Holds val (lenF 31 :: eqs 4)) : runL val _ h 31 (ci 4) (tabS 4) = true := by kernel_rfl
theorem r31s8 {val : Nat → Int} (h : Holds val (lenF 31 :: eqs 8)) : runL val _ h 31 (ci 8) (tabS 8) = true := by kernel_rfl
theorem d31 : DL 31 := ⟨fun val h => leaf h trivial (by kernel_rfl) (by kernel_rfl) (by kernel_rfl) (by kernel_rfl) (by kernel_rfl) (r31z h), fun val h => leaf h trivial (by kernel_rfl) (by kernel_rfl) (by kernel_rfl) (by kernel_rfl) (by kernel_rfl) (r31n h), fun val h => leaf h trivial (by kernel_rfl) (by kernel_rfl) (by kernel_rfl) (by kernel_rfl) (by kernel_rfl) (r31s1 h), fun val h => leaf h trivial (by kernel_rfl) (by kernel_rfl) (by kernel_rfl) (by kernel_rfl) (by kernel_rfl) (r31s2 h), fun val h => leaf h trivial (by kernel_rfl) (by kernel_rfl) (by kernel_rfl) (by kernel_rfl) (by kernel_rfl) (r31s4 h), fun val h => leaf h trivial (by kernel_rfl) (by kernel_rfl) (by kernel_rfl) (by kernel_rfl) (by kernel_rfl) (r31s8 h)⟩

theorem r36z {val : Nat → Int} (h : Holds val [lenF 36]) : runL val _ h 36 (a 2) tabZ = true := by kernel_rfl
theorem r36n {val : Nat → Int} (h : Holds val [lenF 36]) : runL val _ h 36 (a 2) tabN = true := by kernel_rfl
theorem r36s1 {val : Nat → Int} (h : Holds val (lenF 36 :: eqs 1)) : runL val _ h 36 (ci 1) (tabS 1) = true := by kernel_rfl
theorem r36s2 {val : Nat → Int} (h : Holds val (lenF 36 :: eqs 2)) : runL val _ h 36 (ci 2) (tabS 2) = true := by kernel_rfl
theorem r36s4 {val : Nat → Int} (h : Holds val (lenF 36 :: eqs 4)) : runL val _ h 36 (ci 4) (tabS 4) = true := by kernel_rfl
theorem r36s8 {val : Nat → Int} (h : Holds val (lenF 36 :: eqs 8)) : runL val _ h 36 (ci 8) (tabS 8) = true := by kernel_rfl
theorem d36 : DL 36 := ⟨fun val h => leaf h trivial (by kernel_rfl) (by kernel_rfl) (by kernel_rfl) (by kernel_rfl) (by kernel_rfl) (r36z h), fun val h => leaf h trivial (by kernel_rfl) (by kernel_rfl) (by kernel_rfl) (by kernel_rfl) (by kernel_rfl) (r36n h), fun val h => leaf h trivial (by kernel_rfl) (by kernel_rfl) (by kernel_rfl) (by kernel_rfl) (by kernel_rfl) (r36s1 h), fun val h => leaf h trivial (by kernel_rfl) (by kernel_rfl) (by kernel_rfl) (by kernel_rfl) (by kernel_rfl) (r36s2 h), fun val h => leaf h trivial (by kernel_rfl) (by kernel_rfl) (by kernel_rfl) (by kernel_rfl) (by kernel_rfl) (r36s4 h), fun val h => leaf h trivial (by kernel_rfl) (by kernel_rfl) (by kernel_rfl) (by kernel_rfl) (by kernel_rfl) (r36s8 h)⟩

theorem r41z {val : Nat → Int} (h : Holds val [lenF 41]) : runL val _ h 41 (a 2) tabZ = true := by kernel_rfl
theorem r41n {val : Nat → Int} (h : Holds val [lenF 41]) : runL val _ h 41 (a 2) tabN = true := by kernel_rfl
theorem r41s1 {val : Nat → Int} (h : Holds val (lenF 41 :: eqs 1)) : runL val _ h 41 (ci 1) (tabS 1) = true := by kernel_rfl
theorem r41s2 {val : Nat → Int} (h : Holds val (lenF 41 :: eqs 2)) : runL val _ h 41 (ci 2) (tabS 2) = true := by kernel_rfl
theorem r41s4 {val : Nat → Int} (h : Holds val (lenF 41 :: eqs 4)) : runL val _ h 41 (ci 4) (tabS 4) = true := by kernel_rfl
theorem r41s8 {val : Nat → Int} (h : Holds val (lenF 41 :: eqs 8)) : runL val _ h 41 (ci 8) (tabS 8) = true := by kernel_rfl
theorem d41 : DL 41 := ⟨fun val h => leaf h trivial (by kernel_rfl) (by kernel_rfl) (by kernel_rfl) (by kernel_rfl) (by kernel_rfl) (r41z h), fun val h => leaf h trivial (by kernel_rfl) (by kernel_rfl) (by kernel_rfl) (by kernel_rfl) (by kernel_rfl) (r41n h), fun val h => leaf h trivial (by kernel_rfl) (by kernel_rfl) (by kernel_rfl) (by kernel_rfl) (by kernel_rfl) (r41s1 h), fun val h => leaf h trivial (by kernel_rfl) (by kernel_rfl) (by kernel_rfl) (by kernel_rfl) (by kernel_rfl) (r41s2 h), fun val h => leaf h trivial (by kernel_rfl) (by kernel_rfl) (by kernel_rfl) (by kernel_rfl) (by kernel_rfl) (r41s4 h), fun val h => leaf h trivial (by kernel_rfl) (by kernel_rfl) (by kernel_rfl) (by kernel_rfl) (by kernel_rfl) (r41s8 h)⟩

theorem r46z {val : Nat → Int} (h : Holds val [lenF 46]) : runL val _ h 46 (a 2) tabZ = true := by kernel_rfl
theorem r46n {val : Nat → Int} (h : Holds val [lenF 46]) : runL val _ h 46 (a 2) tabN = true := by kernel_rfl
theorem r46s1 {val : Nat → Int} (h : Holds val (lenF 46 :: eqs 1)) : runL val _ h 46 (ci 1) (tabS 1) = true := by kernel_rfl
theorem r46s2 {val : Nat → Int} (h : Holds val (lenF 46 :: eqs 2)) : runL val _ h 46 (ci 2) (tabS 2) = true := by kernel_rfl
theorem r46s4 {val : Nat → Int} (h : Holds val (lenF 46 :: eqs 4)) : runL val _ h 46 (ci 4) (tabS 4) = true := by kernel_rfl
theorem r46s8 {val : Nat → Int} (h : Holds val (lenF 46 :: eqs 8)) : runL val _ h 46 (ci 8) (tabS 8) = true := by kernel_rfl
theorem d46 : DL 46 := ⟨fun val h => leaf h trivial (by kernel_rfl) (by kernel_rfl) (by kernel_rfl) (by kernel_rfl) (by kernel_rfl) (r46z h), fun val h => leaf h trivial (by kernel_rfl) (by kernel_rfl) (by kernel_rfl) (by kernel_rfl) (by kernel_rfl) (r46n h), fun val h => leaf h trivial (by kernel_rfl) (by kernel_rfl) (by kernel_rfl) (by kernel_rfl) (by kernel_rfl) (r46s1 h), fun val h => leaf h trivial (by kernel_rfl) (by kernel_rfl) (by kernel_rfl) (by kernel_rfl) (by kernel_rfl) (r46s2 h), fun val h => leaf h trivial (by kernel_rfl) (by kernel_rfl) (by kernel_rfl) (by kernel_rfl) (by kernel_rfl) (r46s4 h), fun val h => leaf h trivial (by kernel_rfl) (by kernel_rfl) (by kernel_rfl) (by kernel_rfl) (by kernel_rfl) (r46s8 h)⟩

theorem r51z {val : Nat → Int} (h : Holds val [lenF 51]) : runL val _ h 51 (a 2) tabZ = true := by kernel_rfl
theorem r51n {val : Nat → Int} (h : Holds val [lenF 51]) : runL val _ h 51 (a 2) tabN = true := by kernel_rfl
theorem r51s1 {val : Nat → Int} (h : Holds val (lenF 51 :: eqs 1)) : runL val _ h 51 (ci 1) (tabS 1) = true := by kernel_rfl
theorem r51s2 {val : Nat → Int} (h : Holds val (lenF 51 :: eqs 2)) : runL val _ h 51 (ci 2) (tabS 2) = true := by kernel_rfl
theorem r51s4 {val : Nat → Int} (h : Holds val (lenF 51 :: eqs 4)) : runL val _ h 51 (ci 4) (tabS 4) = true := by kernel_rfl
theorem r51s8 {val : Nat → Int} (h : Holds val (lenF 51 :: eqs 8)) : runL val _ h 51 (ci 8) (tabS 8) = true := by kernel_rfl
theorem d51 : DL 51 := ⟨fun val h => leaf h trivial (by kernel_rfl) (by kernel_rfl) (by kernel_rfl) (by kernel_rfl) (by kernel_rfl) (r51z h), fun val h => leaf h trivial (by kernel_rfl) (by kernel_rfl) (by kernel_rfl) (by kernel_rfl) (by kernel_rfl) (r51n h), fun val h => leaf h trivial (by kernel_rfl) (by kernel_rfl) (by kernel_rfl) (by kernel_rfl) (by kernel_rfl) (r51s1 h), fun val h => leaf h trivial (by kernel_rfl) (by kernel_rfl) (by kernel_rfl) (by kernel_rfl) (by kernel_rfl) (r51s2 h), fun val h => leaf h trivial (by kernel_rfl) (by kernel_rfl) (by kernel_rfl) (by kernel_rfl) (by kernel_rfl) (r51s4 h), fun val h => leaf h trivial (by kernel_rfl) (by kernel_rfl) (by kernel_rfl) (by kernel_rfl) (by kernel_rfl) (r51s8 h)⟩

theorem r56z {val : Nat → Int} (h : Holds val [lenF 56]) : runL val _ h 56 (a 2) tabZ = true := by kernel_rfl
theorem r56n {val : Nat → Int} (h : Holds val [lenF 56]) : runL val _ h 56 (a 2) tabN = true := by kernel_rfl
theorem r56s1 {val : Nat → Int} (h : Holds val (lenF 56 :: eqs 1)) : runL val _ h 56 (ci 1) (tabS 1) = true := by kernel_rfl
theorem r56s2 {val : Nat → Int} (h : Holds val (lenF 56 :: eqs 2)) : runL val _ h 56 (ci 2) (tabS 2) = true := by kernel_rfl
theorem r56s4 {val : Nat → Int} (h : Holds val (lenF 56 :: eqs 4)) : runL val _ h 56 (ci 4) (tabS 4) = true := by kernel_rfl
theorem r56s8 {val : Nat → Int} (h : Holds val (lenF 56 :: eqs 8)) : runL val _ h 56 (ci 8) (tabS 8) = true := by kernel_rfl
theorem d56 : DL 56 := ⟨fun val h => leaf h trivial (by kernel_rfl) (by kernel_rfl) (by kernel_rfl) (by kernel_rfl) (by kernel_rfl) (r56z h), fun val h => leaf h trivial (by kernel_rfl) (by kernel_rfl) (by kernel_rfl) (by kernel_rfl) (by kernel_rfl) (r56n h), fun val h => leaf h trivial (by kernel_rfl) (by kernel_rfl) (by kernel_rfl) (by kernel_rfl) (by kernel_rfl) (r56s1 h), fun val h => leaf h trivial (by kernel_rfl) (by kernel_rfl) (by kernel_rfl) (by kernel_rfl) (by kernel_rfl) (r56s2 h), fun val h => leaf h trivial (by kernel_rfl) (by kernel_rfl) (by kernel_rfl) (by kernel_rfl) (by kernel_rfl) (r56s4 h), fun val h => leaf h trivial (by kernel_rfl) (by kernel_rfl) (by kernel_rfl) (by kernel_rfl) (by kernel_rfl) (r56s8 h)⟩

theorem r61z {val : Nat → Int} (h : Holds val [lenF 61]) : runL val _ h 61 (a 2) tabZ = true := by kernel_rfl
theorem r61n {val : Nat → Int} (h : Holds val [lenF 61]) : runL val _ h 61 (a 2) tabN = true := by kernel_rfl
theorem r61s1 {val : Nat → Int} (h : Holds val (lenF 61 :: eqs 1)) : runL val _ h 61 (ci 1) (tabS 1) = true := by kernel_rfl
theorem r61s2 {val : Nat → Int} (h : Holds val (lenF 61 :: eqs 2)) : runL val _ h 61 (ci 2) (tabS 2) = true := by kernel_rfl
theorem r61s4 {val : Nat → Int} (h : Holds val (lenF 61 :: eqs 4)) : runL val _ h 61 (ci 4) (tabS 4) = true := by kernel_rfl
theorem r61s8 {val : Nat → Int} (h : Holds val (lenF 61 :: eqs 8)) : runL val _ h 61 (ci 8) (tabS 8) = true := by kernel_rfl
theorem d61 : DL 61 := ⟨fun val h => leaf h trivial (by kernel_rfl) (by kernel_rfl) (by kernel_rfl) (by kernel_rfl) (by kernel_rfl) (r61z h), fun val h => leaf h trivial (by kernel_rfl) (by kernel_rfl) (by kernel_rfl) (by kernel_rfl) (by kernel_rfl) (r61n h), fun val h => leaf h trivial (by kernel_rfl) (by kernel_rfl) (by kernel_rfl) (by kernel_rfl) (by kernel_rfl) (r61s1 h), fun val h => leaf h trivial (by kernel_rfl) (by kernel_rfl) (by kernel_rfl) (by kernel_rfl) (by kernel_rfl) (r61s2 h), fun val h => leaf h trivial (by kernel_rfl) (by kernel_rfl) (by kernel_rfl) (by kernel_rfl) (by kernel_rfl) (r61s4 h), fun val h => leaf h trivial (by kernel_rfl) (by kernel_rfl) (by kernel_rfl) (by kernel_rfl) (by kernel_rfl) (r61s8 h)⟩

theorem r66z {val : Nat → Int} (h : Holds val [lenF 66]) : runL val _ h 66 (a 2) tabZ = true := by kernel_rfl
theorem r66n {val : Nat → Int} (h : Holds val [lenF 66]) : runL val _ h 66 (a 2) tabN = true := by kernel_rfl
theorem r66s1 {val : Nat → Int} (h : Holds val (lenF 66 :: eqs 1)) : runL val _ h 66 (ci 1) (tabS 1) = true := by kernel_rfl
theorem r66s2 {val : Nat → Int} (h : Holds val (lenF 66 :: eqs 2)) : runL val _ h 66 (ci 2) (tabS 2) = true := by kernel_rfl
theorem r66s4 {val : Nat → Int} (h : Holds val (lenF 66 :: eqs 4)) : runL val _ h 66 (ci 4) (tabS 4) = true := by kernel_rfl
theorem r66s8 {val : Nat → Int} (h : Holds val (lenF 66 :: eqs 8)) : runL val _ h 66 (ci 8) (tabS 8) = true := by kernel_rfl
theorem d66 : DL 66 := ⟨fun val h => leaf h trivial (by kernel_rfl) (by kernel_rfl) (by kernel_rfl) (by kernel_rfl) (by kernel_rfl) (r66z h), fun val h => leaf h trivial (by kernel_rfl) (by kernel_rfl) (by kernel_rfl) (by kernel_rfl) (by kernel_rfl) (r66n h), fun val h => leaf h trivial (by kernel_rfl) (by kernel_rfl) (by kernel_rfl) (by kernel_rfl) (by kernel_rfl) (r66s1 h), fun val h => leaf h trivial (by kernel_rfl) (by kernel_rfl) (by kernel_rfl) (by kernel_rfl) (by kernel_rfl) (r66s2 h), fun val h => leaf h trivial (by kernel_rfl) (by kernel_rfl) (by kernel_rfl) (by kernel_rfl) (by kernel_rfl) (r66s4 h), fun val h => leaf h trivial (by kernel_rfl) (by kernel_rfl) (by kernel_rfl) (by kernel_rfl) (by kernel_rfl) (r66s8 h)⟩

theorem r71z {val : Nat → Int} (h : Holds val [lenF 71]) : runL val _ h 71 (a 2) tabZ = true := by kernel_rfl
theorem r71n {val : Nat → Int} (h : Holds val [lenF 71]) : runL val _ h 71 (a 2) tabN = true := by kernel_rfl
theorem r71s1 {val : Nat → Int} (h : Holds val (lenF 71 :: eqs 1)) : runL val _ h 71 (ci 1) (tabS 1) = true := by kernel_rfl
theorem r71s2 {val : Nat → Int} (h : Holds val (lenF 71 :: eqs 2)) : runL val _ h 71 (ci 2) (tabS 2) = true := by kernel_rfl
theorem r71s4 {val : Nat → Int} (h : Holds val (lenF 71 :: eqs 4)) : runL val _ h 71 (ci 4) (tabS 4) = true := by kernel_rfl
theorem r71s8 {val : Nat → Int} (h : Holds val (lenF 71 :: eqs 8)) : runL val _ h 71 (ci 8) (tabS 8) = true := by kernel_rfl
theorem d71 : DL 71 := ⟨fun val h => leaf h trivial (by kernel_rfl) (by kernel_rfl) (by kernel_rfl) (by kernel_rfl) (by kernel_rfl) (r71z h), fun val h => leaf h trivial (by kernel_rfl) (by kernel_rfl) (by kernel_rfl) (by kernel_rfl) (by kernel_rfl) (r71n h), fun val h => leaf h trivial (by kernel_rfl) (by kernel_rfl) (by kernel_rfl) (by kernel_rfl) (by kernel_rfl) (r71s1 h), fun val h => leaf h trivial (by kernel_rfl) (by kernel_rfl) (by kernel_rfl) (by kernel_rfl) (by kernel_rfl) (r71s2 h), fun val h => leaf h trivial (by kernel_rfl) (by kernel_rfl) (by kernel_rfl) (by kernel_rfl) (by kernel_rfl) (r71s4 h), fun val h => leaf h trivial (by kernel_rfl) (by kernel_rfl) (by kernel_rfl) (by kernel_rfl) (by kernel_rfl) (r71s8 h)⟩

theorem r76z {val : Nat → Int} (h : Holds val [lenF 76]) : runL val _ h 76 (a 2) tabZ = true := by kernel_rfl
theorem r76n {val : Nat → Int} (h : Holds val [lenF 76]) : runL val _ h 76 (a 2) tabN = true := by kernel_rfl
theorem r76s1 {val : Nat → Int} (h : Holds val (lenF 76 :: eqs 1)) : runL val _ h 76 (ci 1) (tabS 1) = true := by kernel_rfl
theorem r76s2 {val : Nat → Int} (h : Holds val (lenF 76 :: eqs 2)) : runL val _ h 76 (ci 2) (tabS 2) = true := by kernel_rfl
theorem r76s4 {val : Nat → Int} (h : Holds val (lenF 76 :: eqs 4)) : runL val _ h 76 (ci 4) (tabS 4) = true := by kernel_rfl
theorem r76s8 {val : Nat → Int} (h : Holds val (lenF 76 :: eqs 8)) : runL val _ h 76 (ci 8) (tabS 8) = true := by kernel_rfl
theorem d76 : DL 76 := ⟨fun val h => leaf h trivial (by kernel_rfl) (by kernel_rfl) (by kernel_rfl) (by kernel_rfl) (by kernel_rfl) (r76z h), fun val h => leaf h trivial (by kernel_rfl) (by kernel_rfl) (by kernel_rfl) (by kernel_rfl) (by kernel_rfl) (r76n h), fun val h => leaf h trivial (by kernel_rfl) (by kernel_rfl) (by kernel_rfl) (by kernel_rfl) (by kernel_rfl) (r76s1 h), fun val h => leaf h trivial (by kernel_rfl) (by kernel_rfl) (by kernel_rfl) (by kernel_rfl) (by kernel_rfl) (r76s2 h), fun val h => leaf h trivial (by kernel_rfl) (by kernel_rfl) (by kernel_rfl) (by kernel_rfl) (by kernel_rfl) (r76s4 h), fun val h => leaf h trivial (by kernel_rfl) (by kernel_rfl) (by kernel_rfl) (by kernel_rfl) (by kernel_rfl) (r76s8 h)⟩

theorem r81z {val : Nat → Int} (h : Holds val [lenF 81]) : runL val _ h 81 (a 2) tabZ = true := by kernel_rfl
theorem r81n {val : Nat → Int} (h : Holds val [lenF 81]) : runL val _ h 81 (a 2) tabN = true := by kernel_rfl
theorem r81s1 {val : Nat → Int} (h : Holds val (lenF 81 :: eqs 1)) : runL val _ h 81 (ci 1) (tabS 1) = true := by kernel_rfl
theorem r81s2 {val : Nat → Int} (h : Holds val (lenF 81 :: eqs 2)) : runL val _ h 81 (ci 2) (tabS 2) = true := by kernel_rfl
theorem r81s4 {val : Nat → Int} (h : Holds val (lenF 81 :: eqs 4)) : runL val _ h 81 (ci 4) (tabS 4) = true := by kernel_rfl
theorem r81s8 {val : Nat → Int} (h : Holds val (lenF 81 :: eqs 8)) : runL val _ h 81 (ci 8) (tabS 8) = true := by kernel_rfl
theorem d81 : DL 81 := ⟨fun val h => leaf h trivial (by kernel_rfl) (by kernel_rfl) (by kernel_rfl) (by kernel_rfl) (by kernel_rfl) (r81z h), fun val h => leaf h trivial (by kernel_rfl) (by kernel_rfl) (by kernel_rfl) (by kernel_rfl) (by kernel_rfl) (r81n h), fun val h => leaf h trivial (by kernel_rfl) (by kernel_rfl) (by kernel_rfl) (by kernel_rfl) (by kernel_rfl) (r81s1 h), fun val h => leaf h trivial (by kernel_rfl) (by kernel_rfl) (by kernel_rfl) (by kernel_rfl) (by kernel_rfl) (r81s2 h), fun val h => leaf h trivial (by kernel_rfl) (by kernel_rfl) (by kernel_rfl) (by kernel_rfl) (by kernel_rfl) (r81s4 h), fun val h => leaf h trivial (by kernel_rfl) (by kernel_rfl) (by kernel_rfl) (by kernel_rfl) (by kernel_rfl) (r81s8 h)⟩

theorem r86z {val : Nat → Int} (h : Holds val [lenF 86]) : runL val _ h 86 (a 2) tabZ = true := by kernel_rfl
theorem r86n {val : Nat → Int} (h : Holds val [lenF 86]) : runL val _ h 86 (a 2) tabN = true := by kernel_rfl
theorem r86s1 {val : Nat → Int} (h : Holds val (lenF 86 :: eqs 1)) : runL val _ h 86 (ci 1) (tabS 1) = true := by kernel_rfl
theorem r86s2 {val : Nat → Int} (h : Holds val (lenF 86 :: eqs 2)) : runL val _ h 86 (ci 2) (tabS 2) = true := by kernel_rfl
theorem r86s4 {val : Nat → Int} (h : Holds val (lenF 86 :: eqs 4)) : runL val _ h 86 (ci 4) (tabS 4) = true := by kernel_rfl
theorem r86s8 {val : Nat → Int} (h : Holds val (lenF 86 :: eqs 8)) : runL val _ h 86 (ci 8) (tabS 8) = true := by kernel_rfl
theorem d86 : DL 86 := ⟨fun val h => leaf h trivial (by kernel_rfl) (by kernel_rfl) (by kernel_rfl) (by kernel_rfl) (by kernel_rfl) (r86z h), fun val h => leaf h trivial (by kernel_rfl) (by kernel_rfl) (by kernel_rfl) (by kernel_rfl) (by kernel_rfl) (r86n h), fun val h => leaf h trivial (by kernel_rfl) (by kernel_rfl) (by kernel_rfl) (by kernel_rfl) (by kernel_rfl) (r86s1 h), fun val h => leaf h trivial (by kernel_rfl) (by kernel_rfl) (by kernel_rfl) (by kernel_rfl) (by kernel_rfl) (r86s2 h), fun val h => leaf h trivial (by kernel_rfl) (by kernel_rfl) (by kernel_rfl) (by kernel_rfl) (by kernel_rfl) (r86s4 h), fun val h => leaf h trivial (by kernel_rfl) (by kernel_rfl) (by kernel_rfl) (by kernel_rfl) (by kernel_rfl) (r86s8 h)⟩

theorem r91z {val : Nat → Int} (h : Holds val [lenF 91]) : runL val _ h 91 (a 2) tabZ = true := by kernel_rfl
theorem r91n {val : Nat → Int} (h : Holds val [lenF 91]) : runL val _ h 91 (a 2) tabN = true := by kernel_rfl
theorem r91s1 {val : Nat → Int} (h : Holds val (lenF 91 :: eqs 1)) : runL val _ h 91 (ci 1) (tabS 1) = true := by kernel_rfl
theorem r91s2 {val : Nat → Int} (h : Holds val (lenF 91 :: eqs 2)) : runL val _ h 91 (ci 2) (tabS 2) = true := by kernel_rfl
theorem r91s4 {val : Nat → Int} (h : Holds val (lenF 91 :: eqs 4)) : runL val _ h 91 (ci 4) (tabS 4) = true := by kernel_rfl
theorem r91s8 {val : Nat → Int} (h : Holds val (lenF 91 :: eqs 8)) : runL val _ h 91 (ci 8) (tabS 8) = true := by kernel_rfl
theorem d91 : DL 91 := ⟨fun val h => leaf h trivial (by kernel_rfl) (by kernel_rfl) (by kernel_rfl) (by kernel_rfl) (by kernel_rfl) (r91z h), fun val h => leaf h trivial (by kernel_rfl) (by kernel_rfl) (by kernel_rfl) (by kernel_rfl) (by kernel_rfl) (r91n h), fun val h => leaf h trivial (by kernel_rfl) (by kernel_rfl) (by kernel_rfl) (by kernel_rfl) (by kernel_rfl) (r91s1 h), fun val h => leaf h trivial (by kernel_rfl) (by kernel_rfl) (by kernel_rfl) (by kernel_rfl) (by kernel_rfl) (r91s2 h), fun val h => leaf h trivial (by kernel_rfl) (by kernel_rfl) (by kernel_rfl) (by kernel_rfl) (by kernel_rfl) (r91s4 h), fun val h => leaf h trivial (by kernel_rfl) (by kernel_rfl) (by kernel_rfl) (by kernel_rfl) (by kernel_rfl) (r91s8 h)⟩

theorem r96z {val : Nat → Int} (h : Holds val [lenF 96]) : runL val _ h 96 (a 2) tabZ = true := by kernel_rfl
theorem r96n {val : Nat → Int} (h : Holds val [lenF 96]) : runL val _ h 96 (a 2) tabN = true := by kernel_rfl
theorem r96s1 {val : Nat → Int} (h : Holds val (lenF 96 :: eqs 1)) : runL val _ h 96 (ci 1) (tabS 1) = true := by kernel_rfl
theorem r96s2 {val : Nat → Int} (h : Holds val (lenF 96 :: eqs 2)) : runL val _ h 96 (ci 2) (tabS 2) = true := by kernel_rfl
theorem r96s4 {val : Nat → Int} (h : Holds val (lenF 96 :: eqs 4)) : runL val _ h 96 (ci 4) (tabS 4) = true := by kernel_rfl
theorem r96s8 {val : Nat → Int} (h : Holds val (lenF 96 :: eqs 8)) : runL val _ h 96 (ci 8) (tabS 8) = true := by kernel_rfl
theorem d96 : DL 96 := ⟨fun val h => leaf h trivial (by kernel_rfl) (by kernel_rfl) (by kernel_rfl) (by kernel_rfl) (by kernel_rfl) (r96z h), fun val h => leaf h trivial (by kernel_rfl) (by kernel_rfl) (by kernel_rfl) (by kernel_rfl) (by kernel_rfl) (r96n h), fun val h => leaf h trivial (by kernel_rfl) (by kernel_rfl) (by kernel_rfl) (by kernel_rfl) (by kernel_rfl) (r96s1 h), fun val h => leaf h trivial (by kernel_rfl) (by kernel_rfl) (by kernel_rfl) (by kernel_rfl) (by kernel_rfl) (r96s2 h), fun val h => leaf h trivial (by kernel_rfl) (by kernel_rfl) (by kernel_rfl) (by kernel_rfl) (by kernel_rfl) (r96s4 h), fun val h => leaf h trivial (by kernel_rfl) (by kernel_rfl) (by kernel_rfl) (by kernel_rfl) (by kernel_rfl) (r96s8 h)⟩

end Go.Proofs.Ytclgmeoofmidfaa.TellsL
