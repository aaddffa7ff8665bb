/-
  The law 'FieldTells', by lengths: each way, run.
-/
import Derived.Test.YtclgmeoofmidfaaTellsH
namespace Go.Proofs.Ytclgmeoofmidfaa.TellsL
open Go.Sim Go.Proofs.Ytclgmeoofmidfaa.Fld
set_option maxRecDepth 100000

theorem r2z {val : Nat → Int} (h : Holds val [lenF 2]) : runL val _ h 2 (a 2) tabZ = true := by kernel_rfl
theorem r2n {val : Nat → Int} (h : Holds val [lenF 2]) : runL val _ h 2 (a 2) tabN = true := by kernel_rfl
theorem r2s1 {val : Nat → Int} (h : Holds val (lenF 2 :: eqs 1)) : runL val _ h 2 (ci 1) (tabS 1) = true := by kernel_rfl
theorem r2s2 {val : Nat → Int} (h : Holds val (lenF 2 :: eqs 2)) : runL val _ h 2 (ci 2) (tabS 2) = true := by kernel_rfl
theorem r2s4 {val : Nat → Int} (h : Holds val (lenF 2 :: eqs 4)) : runL val _ h 2 (ci 4) (tabS 4) = true := by kernel_rfl
theorem r2s8 {val : Nat → Int} (h : Holds val (lenF 2 :: eqs 8)) : runL val _ h 2 (ci 8) (tabS 8) = true := by kernel_rfl
theorem d2 : DL 2 := ⟨fun val h => leaf h trivial (by kernel_rfl) (by kernel_rfl) (by kernel_rfl) (by kernel_rfl) (by kernel_rfl) (r2z h), fun val h => leaf h trivial (by kernel_rfl) (by kernel_rfl) (by kernel_rfl) (by kernel_rfl) (by kernel_rfl) (r2n h), fun val h => leaf h trivial (by kernel_rfl) (by kernel_rfl) (by kernel_rfl) (by kernel_rfl) (by kernel_rfl) (r2s1 h), fun val h => leaf h trivial (by kernel_rfl) (by kernel_rfl) (by kernel_rfl) (by kernel_rfl) (by kernel_rfl) (r2s2 h), fun val h => leaf h trivial (by kernel_rfl) (by kernel_rfl) (by kernel_rfl) (by kernel_rfl) (by kernel_rfl) (r2s4 h), fun val h => leaf h trivial (by kernel_rfl) (by kernel_rfl) (by kernel_rfl) (by kernel_rfl) (by kernel_rfl) (r2s8 h)⟩

theorem r7z {val : Nat → Int} (h : Holds val [lenF 7]) : runL val _ h 7 (a 2) tabZ = true := by kernel_rfl
theorem r7n {val : Nat → Int} (h : Holds val [lenF 7]) : runL val _ h 7 (a 2) tabN = true := by kernel_rfl
theorem r7s1 {val : Nat → Int} (h : Holds val (lenF 7 :: eqs 1)) : runL val _ h 7 (ci 1) (tabS 1) = true := by kernel_rfl
theorem r7s2 {val : Nat → Int} (h : Holds val (lenF 7 :: eqs 2)) : runL val _ h 7 (ci 2) (tabS 2) = true := by kernel_rfl
theorem r7s4 {val : Nat → Int} (h : Holds val (lenF 7 :: eqs 4)) : runL val _ h 7 (ci 4) (tabS 4) = true := by kernel_rfl
theorem r7s8 {val : Nat → Int} (h : Holds val (lenF 7 :: eqs 8)) : runL val _ h 7 (ci 8) (tabS 8) = true := by kernel_rfl
theorem d7 : DL 7 := ⟨fun val h => leaf h trivial (by kernel_rfl) (by kernel_rfl) (by kernel_rfl) (by kernel_rfl) (by kernel_rfl) (r7z h), fun val h => leaf h trivial (by kernel_rfl) (by kernel_rfl) (by kernel_rfl) (by kernel_rfl) (by kernel_rfl) (r7n h), fun val h => leaf h trivial (by kernel_rfl) (by kernel_rfl) (by kernel_rfl) (by kernel_rfl) (by kernel_rfl) (r7s1 h), fun val h => leaf h trivial (by kernel_rfl) (by kernel_rfl) (by kernel_rfl) (by kernel_rfl) (by kernel_rfl) (r7s2 h), fun val h => leaf h trivial (by kernel_rfl) (by kernel_rfl) (by kernel_rfl) (by kernel_rfl) (by kernel_rfl) (r7s4 h), fun val h => leaf h trivial (by kernel_rfl) (by kernel_rfl) (by kernel_rfl) (by kernel_rfl) (by kernel_rfl) (r7s8 h)⟩

theorem r12z {val : Nat → Int} (h : Holds val [lenF 12]) : runL val _ h 12 (a 2) tabZ = true := by kernel_rfl
theorem r12n {val : Nat → Int} (h : Holds val [lenF 12]) : runL val _ h 12 (a 2) tabN = true := by kernel_rfl
theorem r12s1 {val : Nat → Int} (h : Holds val (lenF 12 :: eqs 1)) : runL val _ h 12 (ci 1) (tabS 1) = true := by kernel_rfl
theorem r12s2 {val : Nat → Int} (h : Holds val (lenF 12 :: eqs 2)) : runL val _ h 12 (ci 2) (tabS 2) = true := by kernel_rfl
theorem r12s4 {val : Nat → Int} (h : Holds val (lenF 12 :: eqs 4)) : runL val _ h 12 (ci 4) (tabS 4) = true := by kernel_rfl
theorem r12s8 {val : Nat → Int} (h : Holds val (lenF 12 :: eqs 8)) : runL val _ h 12 (ci 8) (tabS 8) = true := by kernel_rfl
theorem d12 : DL 12 := ⟨fun val h => leaf h trivial (by kernel_rfl) (by kernel_rfl) (by kernel_rfl) (by kernel_rfl) (by kernel_rfl) (r12z h), fun val h => leaf h trivial (by kernel_rfl) (by kernel_rfl) (by kernel_rfl) (by kernel_rfl) (by kernel_rfl) (r12n h), fun val h => leaf h trivial (by kernel_rfl) (by kernel_rfl) (by kernel_rfl) (by kernel_rfl) (by kernel_rfl) (r12s1 h), fun val h => leaf h trivial (by kernel_rfl) (by kernel_rfl) (by kernel_rfl) (by kernel_rfl) (by kernel_rfl) (r12s2 h), fun val h => leaf h trivial (by kernel_rfl) (by kernel_rfl) (by kernel_rfl) (by kernel_rfl) (by kernel_rfl) (r12s4 h), fun val h => leaf h trivial (by kernel_rfl) (by kernel_rfl) (by kernel_rfl) (by kernel_rfl) (by kernel_rfl) (r12s8 h)⟩

theorem r17z {val : Nat → Int} (h : Holds val [lenF 17]) : runL val _ h 17 (a 2) tabZ = true := by kernel_rfl
theorem r17n {val : Nat → Int} (h : Holds val [lenF 17]) : runL val _ h 17 (a 2) tabN = true := by kernel_rfl
theorem r17s1 {val : Nat → Int} (h : Holds val (lenF 17 :: eqs 1)) : runL val _ h 17 (ci 1) (tabS 1) = true := by kernel_rfl
theorem r17s2 {val : Nat → Int} (h : Holds val (lenF 17 :: eqs 2)) : runL val _ h 17 (ci 2) (tabS 2) = true := by kernel_rfl
theorem r17s4 {val : Nat → Int} (h : Holds val (lenF 17 :: eqs 4)) : runL val _ h 17 (ci 4) (tabS 4) = true := by kernel_rfl
theorem r17s8 {val : Nat → Int} (h : Holds val (lenF 17 :: eqs 8)) : runL val _ h 17 (ci 8) (tabS 8) = true := by kernel_rfl
theorem d17 : DL 17 := ⟨fun val h => leaf h trivial (by kernel_rfl) (by kernel_rfl) (by kernel_rfl) (by kernel_rfl) (by kernel_rfl) (r17z h), fun val h => leaf h trivial (by kernel_rfl) (by kernel_rfl) (by kernel_rfl) (by kernel_rfl) (by kernel_rfl) (r17n h), fun val h => leaf h trivial (by kernel_rfl) (by kernel_rfl) (by kernel_rfl) (by kernel_rfl) (by kernel_rfl) (r17s1 h), fun val h => leaf h trivial (by kernel_rfl) (by kernel_rfl) (by kernel_rfl) (by kernel_rfl) (by kernel_rfl) (r17s2 h), fun val h => leaf h trivial (by kernel_rfl) (by kernel_rfl) (by kernel_rfl) (by kernel_rfl) (by kernel_rfl) (r17s4 h), fun val h => leaf h trivial (by kernel_rfl) (by kernel_rfl) (by kernel_rfl) (by kernel_rfl) (by kernel_rfl) (r17s8 h)⟩

theorem r22z {val : Nat → Int} (h : Holds val [lenF 22]) : runL val _ h 22 (a 2) tabZ = true := by kernel_rfl
theorem r22n {val : Nat → Int} (h : Holds val [lenF 22]) : runL val _ h 22 (a 2) tabN = true := by kernel_rfl
theorem r22s1 {val : Nat → Int} (h : Holds val (lenF 22 :: eqs 1)) : runL val _ h 22 (ci 1) (tabS 1) = true := by kernel_rfl
theorem r22s2 {val : Nat → Int} (h : Holds val (lenF 22 :: eqs 2)) : runL val _ h 22 (ci 2) (tabS 2) = true := by kernel_rfl
theorem r22s4 {val : Nat → Int} (h : Holds val (lenF 22 :: eqs 4)) : runL val _ h 22 (ci 4) (tabS 4) = true := by kernel_rfl
theorem r22s8 {val : Nat → Int} (h : Holds val (lenF 22 :: eqs 8)) : runL val _ h 22 (ci 8) (tabS 8) = true := by kernel_rfl
theorem d22 : DL 22 := ⟨fun val h => leaf h trivial (by kernel_rfl) (by kernel_rfl) (by kernel_rfl) (by kernel_rfl) (by kernel_rfl) (r22z h), fun val h => leaf h trivial (by kernel_rfl) (by kernel_rfl) (by kernel_rfl) (by kernel_rfl) (by kernel_rfl) (r22n h), fun val h => leaf h trivial (by kernel_rfl) (by kernel_rfl) (by kernel_rfl) (by kernel_rfl) (by kernel_rfl) (r22s1 h), fun val h => leaf h trivial (by kernel_rfl) (by kernel_rfl) (by kernel_rfl) (by kernel_rfl) (by kernel_rfl) (r22s2 h), fun val h => leaf h trivial (by kernel_rfl) (by kernel_rfl) (by kernel_rfl) (by kernel_rfl) (by kernel_rfl) (r22s4 h), fun val h => leaf h trivial (by kernel_rfl) (by kernel_rfl) (by kernel_rfl) (by kernel_rfl) (by kernel_rfl) (r22s8 h)⟩

theorem r27z {val : Nat → Int} (h : Holds val [lenF 27]) : runL val _ h 27 (a 2) tabZ = true := by kernel_rfl
theorem r27n {val : Nat → Int} (h : Holds val [lenF 27]) : runL val _ h 27 (a 2) tabN = true := by kernel_rfl
theorem r27s1 {val : Nat → Int} (h : Holds val (lenF 27 :: eqs 1)) : runL val _ h 27 (ci 1) (tabS 1) = true := by kernel_rfl
theorem r27s2 {val : Nat → Int} (h : Holds val (lenF 27 :: eqs 2)) : runL val _ h 27 (ci 2) (tabS 2) = true := by kernel_rfl
theorem r27s4 {val : Nat → Int} (h : Holds val (lenF 27 :: eqs 4)) : runL val _ h 27 (ci 4) (tabS 4) = true := by kernel_rfl
theorem r27s8 {val : Nat → Int} (h : Holds val (lenF 27 :: eqs 8)) : runL val _ h 27 (ci 8) (tabS 8) = true := by kernel_rfl
theorem d27 : DL 27 := ⟨fun val h => leaf h trivial (by kernel_rfl) (by kernel_rfl) (by kernel_rfl) (by kernel_rfl) (by kernel_rfl) (r27z h), fun val h => leaf h trivial (by kernel_rfl) (by kernel_rfl) (by kernel_rfl) (by kernel_rfl) (by kernel_rfl) (r27n h), fun val h => leaf h trivial (by kernel_rfl) (by kernel_rfl) (by kernel_rfl) (by kernel_rfl) (by kernel_rfl) (r27s1 h), fun val h => leaf h trivial (by kernel_rfl) (by kernel_rfl) (by kernel_rfl) (by kernel_rfl) (by kernel_rfl) (r27s2 h), fun val h => leaf h trivial (by kernel_rfl) (by kernel_rfl) (by kernel_rfl) (by kernel_rfl) (by kernel_rfl) (r27s4 h), fun val h => leaf h trivial (by kernel_rfl) (by kernel_rfl) (by kernel_rfl) (by kernel_rfl) (by kernel_rfl) (r27s8 h)⟩

theorem r32z {val : Nat → Int} (h : Holds val [lenF 32]) : runL val _ h 32 (a 2) tabZ = true := by kernel_rfl
theorem r32n {val : Nat → Int} (h : Holds val [lenF 32]) : runL val _ h 32 (a 2) tabN = true := by kernel_rfl
theorem r32s1 {val : Nat → Int} (h : Holds val (lenF 32 :: eqs 1)) : runL val _ h 32 (ci 1) (tabS 1) = true := by kernel_rfl
theorem r32s2 {val : Nat → Int} (h : Holds val (lenF 32 :: eqs 2)) : runL val _ h 32 (ci 2) (tabS 2) = true := by kernel_rfl
theorem r32s4 {val : Nat → Int} (h : Holds val (lenF 32 :: eqs 4)) : runL val _ h 32 (ci 4) (tabS 4) = true := by kernel_rfl
theorem r32s8 {val : Nat → Int} (h : Holds val (lenF 32 :: eqs 8)) : runL val _ h 32 (ci 8) (tabS 8) = true := by kernel_rfl
theorem d32 : DL 32 := ⟨fun val h => leaf h trivial (by kernel_rfl) (by kernel_rfl) (by kernel_rfl) (by kernel_rfl) (by kernel_rfl) (r32z h), fun val h => leaf h trivial (by kernel_rfl) (by kernel_rfl) (by kernel_rfl) (by kernel_rfl) (by kernel_rfl) (r32n h), fun val h => leaf h trivial (by kernel_rfl) (by kernel_rfl) (by kernel_rfl) (by kernel_rfl) (by kernel_rfl) (r32s1 h), fun val h => leaf h trivial (by kernel_rfl) (by kernel_rfl) (by kernel_rfl) (by kernel_rfl) (by kernel_rfl) (r32s2 h), fun val h => leaf h trivial (by kernel_rfl) (by kernel_rfl) (by kernel_rfl) (by kernel_rfl) (by kernel_rfl) (r32s4 h), fun val h => leaf h trivial (by kernel_rfl) (by kernel_rfl) (by kernel_rfl) (by kernel_rfl) (by kernel_rfl) (r32s8 h)⟩

theorem r37z {val : Nat → Int} (h : Holds val [lenF 37]) : runL val _ h 37 (a 2) tabZ = true := by kernel_rfl
theorem r37n {val : Nat → Int} (h : Holds val [lenF 37]) : runL val _ h 37 (a 2) tabN = true := by kernel_rfl
theorem r37s1 {val : Nat → Int} (h : Holds val (lenF 37 :: eqs 1)) : runL val _ h 37 (ci 1) (tabS 1) = true := by kernel_rfl
theorem r37s2 {val : Nat → Int} (h : Holds val (lenF 37 :: eqs 2)) : runL val _ h 37 (ci 2) (tabS 2) = true := by kernel_rfl
theorem r37s4 {val : Nat → Int} (h : Holds val (lenF 37 :: eqs 4)) : runL val _ h 37 (ci 4) (tabS 4) = true := by kernel_rfl
theorem r37s8 {val : Nat → Int} (h : Holds val (lenF 37 :: eqs 8)) : runL val _ h 37 (ci 8) (tabS 8) = true := by kernel_rfl
theorem d37 : DL 37 := ⟨fun val h => leaf h trivial (by kernel_rfl) (by kernel_rfl) (by kernel_rfl) (by kernel_rfl) (by kernel_rfl) (r37z h), fun val h => leaf h trivial (by kernel_rfl) (by kernel_rfl) (by kernel_rfl) (by kernel_rfl) (by kernel_rfl) (r37n h), fun val h => leaf h trivial (by kernel_rfl) (by kernel_rfl) (by kernel_rfl) (by kernel_rfl) (by kernel_rfl) (r37s1 h), fun val h => leaf h trivial (by kernel_rfl) (by kernel_rfl) (by kernel_rfl) (by kernel_rfl) (by kernel_rfl) (r37s2 h), fun val h => leaf h trivial (by kernel_rfl) (by kernel_rfl) (by kernel_rfl) (by kernel_rfl) (by kernel_rfl) (r37s4 h), fun val h => leaf h trivial (by kernel_rfl) (by kernel_rfl) (by kernel_rfl) (by kernel_rfl) (by kernel_rfl) (r37s8 h)⟩

theorem r42z {val : Nat → Int} (h : Holds val [lenF 42]) : runL val _ h 42 (a 2) tabZ = true := by kernel_rfl
theorem r42n {val : Nat → Int} (h : Holds val [lenF 42]) : runL val _ h 42 (a 2) tabN = true := by kernel_rfl
theorem r42s1 {val : Nat → Int} (h : Holds val (lenF 42 :: eqs 1)) : runL val _ h 42 (ci 1) (tabS 1) = true := by kernel_rfl
theorem r42s2 {val : Nat → Int} (h : Holds val (lenF 42 :: eqs 2)) : runL val _ h 42 (ci 2) (tabS 2) = true := by kernel_rfl
theorem r42s4 {val : Nat → Int} (h : Holds val (lenF 42 :: eqs 4)) : runL val _ h 42 (ci 4) (tabS 4) = true := by kernel_rfl
theorem r42s8 {val : Nat → Int} (h : Holds val (lenF 42 :: eqs 8)) : runL val _ h 42 (ci 8) (tabS 8) = true := by kernel_rfl
theorem d42 : DL 42 := ⟨fun val h => leaf h trivial (by kernel_rfl) (by kernel_rfl) (by kernel_rfl) (by kernel_rfl) (by kernel_rfl) (r42z h), fun val h => leaf h trivial (by kernel_rfl) (by kernel_rfl) (by kernel_rfl) (by kernel_rfl) (by kernel_rfl) (r42n h), fun val h => leaf h trivial (by kernel_rfl) (by kernel_rfl) (by kernel_rfl) (by kernel_rfl) (by kernel_rfl) (r42s1 h), fun val h => leaf h trivial (by kernel_rfl) (by kernel_rfl) (by kernel_rfl) (by kernel_rfl) (by kernel_rfl) (r42s2 h), fun val h => leaf h trivial (by kernel_rfl) (by kernel_rfl) (by kernel_rfl) (by kernel_rfl) (by kernel_rfl) (r42s4 h), fun val h => leaf h trivial (by kernel_rfl) (by kernel_rfl) (by kernel_rfl) (by kernel_rfl) (by kernel_rfl) (r42s8 h)⟩

theorem r47z {val : Nat → Int} (h : Holds val [lenF 47]) : runL val _ h 47 (a 2) tabZ = true := by kernel_rfl
theorem r47n {val : Nat → Int} (h : Holds val [lenF 47]) : runL val _ h 47 (a 2) tabN = true := by kernel_rfl
theorem r47s1 {val : Nat → Int} (h : Holds val (lenF 47 :: eqs 1)) : runL val _ h 47 (ci 1) (tabS 1) = true := by kernel_rfl
theorem r47s2 {val : Nat → Int} (h : Holds val (lenF 47 :: eqs 2)) : runL val _ h 47 (ci 2) (tabS 2) = true := by kernel_rfl
theorem r47s4 {val : Nat → Int} (h : Holds val (lenF 47 :: eqs 4)) : runL val _ h 47 (ci 4) (tabS 4) = true := by kernel_rfl
theorem r47s8 {val : Nat → Int} (h : Holds val (lenF 47 :: eqs 8)) : runL val _ h 47 (ci 8) (tabS 8) = true := by kernel_rfl
theorem d47 : DL 47 := ⟨fun val h => leaf h trivial (by kernel_rfl) (by kernel_rfl) (by kernel_rfl) (by kernel_rfl) (by kernel_rfl) (r47z h), fun val h => leaf h trivial (by kernel_rfl) (by kernel_rfl) (by kernel_rfl) (by kernel_rfl) (by kernel_rfl) (r47n h), fun val h => leaf h trivial (by kernel_rfl) (by kernel_rfl) (by kernel_rfl) (by kernel_rfl) (by kernel_rfl) (r47s1 h), fun val h => leaf h trivial (by kernel_rfl) (by kernel_rfl) (by kernel_rfl) (by kernel_rfl) (by kernel_rfl) (r47s2 h), fun val h => leaf h trivial (by kernel_rfl) (by kernel_rfl) (by kernel_rfl) (by kernel_rfl) (by kernel_rfl) (r47s4 h), fun val h => leaf h trivial (by kernel_rfl) (by kernel_rfl) (by kernel_rfl) (by kernel_rfl) (by kernel_rfl) (r47s8 h)⟩

theorem r52z {val : Nat → Int} (h : Holds val [lenF 52]) : runL val _ h 52 (a 2) tabZ = true := by kernel_rfl
theorem r52n {val : Nat → Int} (h : Holds val [lenF 52]) : runL val _ h 52 (a 2) tabN = true := by kernel_rfl
theorem r52s1 {val : Nat → Int} (h : Holds val (lenF 52 :: eqs 1)) : runL val _ h 52 (ci 1) (tabS 1) = true := by kernel_rfl
theorem r52s2 {val : Nat → Int} (h : Holds val (lenF 52 :: eqs 2)) : runL val _ h 52 (ci 2) (tabS 2) = true := by kernel_rfl
theorem r52s4 {val : Nat → Int} (h : Holds val (lenF 52 :: eqs 4)) : runL val _ h 52 (ci 4) (tabS 4) = true := by kernel_rfl
theorem r52s8 {val : Nat → Int} (h : Holds val (lenF 52 :: eqs 8)) : runL val _ h 52 (ci 8) (tabS 8) = true := by kernel_rfl
theorem d52 : DL 52 := ⟨fun val h => leaf h trivial (by kernel_rfl) (by kernel_rfl) (by kernel_rfl) (by kernel_rfl) (by kernel_rfl) (r52z h), fun val h => leaf h trivial (by kernel_rfl) (by kernel_rfl) (by kernel_rfl) (by kernel_rfl) (by kernel_rfl) (r52n h), fun val h => leaf h trivial (by kernel_rfl) (by kernel_rfl) (by kernel_rfl) (by kernel_rfl) (by kernel_rfl) (r52s1 h), fun val h => leaf h trivial (by kernel_rfl) (by kernel_rfl) (by kernel_rfl) (by kernel_rfl) (by kernel_rfl) (r52s2 h), fun val h => leaf h trivial (by kernel_rfl) (by kernel_rfl) (by kernel_rfl) (by kernel_rfl) (by kernel_rfl) (r52s4 h), fun val h => leaf h trivial (by kernel_rfl) (by kernel_rfl) (by kernel_rfl) (by kernel_rfl) (by kernel_rfl) (r52s8 h)⟩

theorem r57z {val : Nat → Int} (h : Holds val [lenF 57]) : runL val _ h 57 (a 2) tabZ = true := by kernel_rfl
theorem r57n {val : Nat → Int} (h : Holds val [lenF 57]) : runL val _ h 57 (a 2) tabN = true := by kernel_rfl
theorem r57s1 {val : Nat → Int} (h : Holds val (lenF 57 :: eqs 1)) : runL val _ h 57 (ci 1) (tabS 1) = true := by kernel_rfl
theorem r57s2 {val : Nat → Int} (h : Holds val (lenF 57 :: eqs 2)) : runL val _ h 57 (ci 2) (tabS 2) = true := by kernel_rfl
theorem r57s4 {val : Nat → Int} (h : Holds val (lenF 57 :: eqs 4)) : runL val _ h 57 (ci 4) (tabS 4) = true := by kernel_rfl
theorem r57s8 {val : Nat → Int} (h : Holds val (lenF 57 :: eqs 8)) : runL val _ h 57 (ci 8) (tabS 8) = true := by kernel_rfl
theorem d57 : DL 57 := ⟨fun val h => leaf h trivial (by kernel_rfl) (by kernel_rfl) (by kernel_rfl) (by kernel_rfl) (by kernel_rfl) (r57z h), fun val h => leaf h trivial (by kernel_rfl) (by kernel_rfl) (by kernel_rfl) (by kernel_rfl) (by kernel_rfl) (r57n h), fun val h => leaf h trivial (by kernel_rfl) (by kernel_rfl) (by kernel_rfl) (by kernel_rfl) (by kernel_rfl) (r57s1 h), fun val h => leaf h trivial (by kernel_rfl) (by kernel_rfl) (by kernel_rfl) (by kernel_rfl) (by kernel_rfl) (r57s2 h), fun val h => leaf h trivial (by kernel_rfl) (by kernel_rfl) (by kernel_rfl) (by kernel_rfl) (by kernel_rfl) (r57s4 h), fun val h => leaf h trivial (by kernel_rfl) (by kernel_rfl) (by kernel_rfl) (by kernel_rfl) (by kernel_rfl) (r57s8 h)⟩

theorem r62z {val : Nat → Int} (h : Holds val [lenF 62]) : runL val _ h 62 (a 2) tabZ = true := by kernel_rfl
theorem r62n {val : Nat → Int} (h : Holds val [lenF 62]) : runL val _ h 62 (a 2) tabN = true := by kernel_rfl
theorem r62s1 {val : Nat → Int} (h : Holds val (lenF 62 :: eqs 1)) : runL val _ h 62 (ci 1) (tabS 1) = true := by kernel_rfl
theorem r62s2 {val : Nat → Int} (h : Holds val (lenF 62 :: eqs 2)) : runL val _ h 62 (ci 2) (tabS 2) = true := by kernel_rfl
theorem r62s4 {val : Nat → Int} (h : Holds val (lenF 62 :: eqs 4)) : runL val _ h 62 (ci 4) (tabS 4) = true := by kernel_rfl
theorem r62s8 {val : Nat → Int} (h : Holds val (lenF 62 :: eqs 8)) : runL val _ h 62 (ci 8) (tabS 8) = true := by kernel_rfl
theorem d62 : DL 62 := ⟨fun val h => leaf h trivial (by kernel_rfl) (by kernel_rfl) (by kernel_rfl) (by kernel_rfl) (by kernel_rfl) (r62z h), fun val h => leaf h trivial (by kernel_rfl) (by kernel_rfl) (by kernel_rfl) (by kernel_rfl) (by kernel_rfl) (r62n h), fun val h => leaf h trivial (by kernel_rfl) (by kernel_rfl) (by kernel_rfl) (by kernel_rfl) (by kernel_rfl) (r62s1 h), fun val h => leaf h trivial (by kernel_rfl) (by kernel_rfl) (by kernel_rfl) (by kernel_rfl) (by kernel_rfl) (r62s2 h), fun val h => leaf h trivial (by kernel_rfl) (by kernel_rfl) (by kernel_rfl) (by kernel_rfl) (by kernel_rfl) (r62s4 h), fun val h => leaf h trivial (by kernel_rfl) (by kernel_rfl) (by kernel_rfl) (by kernel_rfl) (by kernel_rfl) (r62s8 h)⟩

theorem r67z {val : Nat → Int} (h : Holds val [lenF 67]) : runL val _ h 67 (a 2) tabZ = true := by kernel_rfl
theorem r67n {val : Nat → Int} (h : Holds val [lenF 67]) : runL val _ h 67 (a 2) tabN = true := by kernel_rfl
theorem r67s1 {val : Nat → Int} (h : Holds val (lenF 67 :: eqs 1)) : runL val _ h 67 (ci 1) (tabS 1) = true := by kernel_rfl
theorem r67s2 {val : Nat → Int} (h : Holds val (lenF 67 :: eqs 2)) : runL val _ h 67 (ci 2) (tabS 2) = true := by kernel_rfl
theorem r67s4 {val : Nat → Int} (h : Holds val (lenF 67 :: eqs 4)) : runL val _ h 67 (ci 4) (tabS 4) = true := by kernel_rfl
theorem r67s8 {val : Nat → Int} (h : Holds val (lenF 67 :: eqs 8)) : runL val _ h 67 (ci 8) (tabS 8) = true := by kernel_rfl
theorem d67 : DL 67 := ⟨fun val h => leaf h trivial (by kernel_rfl) (by kernel_rfl) (by kernel_rfl) (by kernel_rfl) (by kernel_rfl) (r67z h), fun val h => leaf h trivial (by kernel_rfl) (by kernel_rfl) (by kernel_rfl) (by kernel_rfl) (by kernel_rfl) (r67n h), fun val h => leaf h trivial (by kernel_rfl) (by kernel_rfl) (by kernel_rfl) (by kernel_rfl) (by kernel_rfl) (r67s1 h), fun val h => leaf h trivial (by kernel_rfl) (by kernel_rfl) (by kernel_rfl) (by kernel_rfl) (by kernel_rfl) (r67s2 h), fun val h => leaf h trivial (by kernel_rfl) (by kernel_rfl) (by kernel_rfl) (by kernel_rfl) (by kernel_rfl) (r67s4 h), fun val h => leaf h trivial (by kernel_rfl) (by kernel_rfl) (by kernel_rfl) (by kernel_rfl) (by kernel_rfl) (r67s8 h)⟩

theorem r72z {val : Nat → Int} (h : Holds val [lenF 72]) : runL val _ h 72 (a 2) tabZ = true := by kernel_rfl
theorem r72n {val : Nat → Int} (h : Holds val [lenF 72]) : runL val _ h 72 (a 2) tabN = true := by kernel_rfl
theorem r72s1 {val : Nat → Int} (h : Holds val (lenF 72 :: eqs 1)) : runL val _ h 72 (ci 1) (tabS 1) = true := by kernel_rfl
theorem r72s2 {val : Nat → Int} (h : Holds val (lenF 72 :: eqs 2)) : runL val _ h 72 (ci 2) (tabS 2) = true := by kernel_rfl
theorem r72s4 {val : Nat → Int} (h : Holds val (lenF 72 :: eqs 4)) : runL val _ h 72 (ci 4) (tabS 4) = true := by kernel_rfl
theorem r72s8 {val : Nat → Int} (h : Holds val (lenF 72 :: eqs 8)) : runL val _ h 72 (ci 8) (tabS 8) = true := by kernel_rfl
theorem d72 : DL 72 := ⟨fun val h => leaf h trivial (by kernel_rfl) (by kernel_rfl) (by kernel_rfl) (by kernel_rfl) (by kernel_rfl) (r72z h), fun val h => leaf h trivial (by kernel_rfl) (by kernel_rfl) (by kernel_rfl) (by kernel_rfl) (by kernel_rfl) (r72n h), fun val h => leaf h trivial (by kernel_rfl) (by kernel_rfl) (by kernel_rfl) (by kernel_rfl) (by kernel_rfl) (r72s1 h), fun val h => leaf h trivial (by kernel_rfl) (by kernel_rfl) (by kernel_rfl) (by kernel_rfl) (by kernel_rfl) (r72s2 h), fun val h => leaf h trivial (by kernel_rfl) (by kernel_rfl) (by kernel_rfl) (by kernel_rfl) (by kernel_rfl) (r72s4 h), fun val h => leaf h trivial (by kernel_rfl) (by kernel_rfl) (by kernel_rfl) (by kernel_rfl) (by kernel_rfl) (r72s8 h)⟩

theorem r77z {val : Nat → Int} (h : Holds val [lenF 77]) : runL val _ h 77 (a 2) tabZ = true := by kernel_rfl
theorem r77n {val : Nat → Int} (h : Holds val [lenF 77]) : runL val _ h 77 (a 2) tabN = true := by kernel_rfl
theorem r77s1 {val : Nat → Int} (h : Holds val (lenF 77 :: eqs 1)) : runL val _ h 77 (ci 1) (tabS 1) = true := by kernel_rfl
theorem r77s2 {val : Nat → Int} (h : Holds val (lenF 77 :: eqs 2)) : runL val _ h 77 (ci 2) (tabS 2) = true := by kernel_rfl
theorem r77s4 {val : Nat → Int} (h : Holds val (lenF 77 :: eqs 4)) : runL val _ h 77 (ci 4) (tabS 4) = true := by kernel_rfl
theorem r77s8 {val : Nat → Int} (h : Holds val (lenF 77 :: eqs 8)) : runL val _ h 77 (ci 8) (tabS 8) = true := by kernel_rfl
theorem d77 : DL 77 := ⟨fun val h => leaf h trivial (by kernel_rfl) (by kernel_rfl) (by kernel_rfl) (by kernel_rfl) (by kernel_rfl) (r77z h), fun val h => leaf h trivial (by kernel_rfl) (by kernel_rfl) (by kernel_rfl) (by kernel_rfl) (by kernel_rfl) (r77n h), fun val h => leaf h trivial (by kernel_rfl) (by kernel_rfl) (by kernel_rfl) (by kernel_rfl) (by kernel_rfl) (r77s1 h), fun val h => leaf h trivial (by kernel_rfl) (by kernel_rfl) (by kernel_rfl) (by kernel_rfl) (by kernel_rfl) (r77s2 h), fun val h => leaf h trivial (by kernel_rfl) (by kernel_rfl) (by kernel_rfl) (by kernel_rfl) (by kernel_rfl) (r77s4 h), fun val h => leaf h trivial (by kernel_rfl) (by kernel_rfl) (by kernel_rfl) (by kernel_rfl) (by kernel_rfl) (r77s8 h)⟩

theorem r82z {val : Nat → Int} (h : Holds val [lenF 82]) : runL val _ h 82 (a 2) tabZ = true := by kernel_rfl
theorem r82n {val : Nat → Int} (h : Holds val [lenF 82]) : runL val _ h 82 (a 2) tabN = true := by kernel_rfl
theorem r82s1 {val : Nat → Int} (h : Holds val (lenF 82 :: eqs 1)) : runL val _ h 82 (ci 1) (tabS 1) = true := by kernel_rfl
theorem r82s2 {val : Nat → Int} (h : Holds val (lenF 82 :: eqs 2)) : runL val _ h 82 (ci 2) (tabS 2) = true := by kernel_rfl
theorem r82s4 {val : Nat → Int} (h : Holds val (lenF 82 :: eqs 4)) : runL val _ h 82 (ci 4) (tabS 4) = true := by kernel_rfl
theorem r82s8 {val : Nat → Int} (h : Holds val (lenF 82 :: eqs 8)) : runL val _ h 82 (ci 8) (tabS 8) = true := by kernel_rfl
theorem d82 : DL 82 := ⟨fun val h => leaf h trivial (by kernel_rfl) (by kernel_rfl) (by kernel_rfl) (by kernel_rfl) (by kernel_rfl) (r82z h), fun val h => leaf h trivial (by kernel_rfl) (by kernel_rfl) (by kernel_rfl) (by kernel_rfl) (by kernel_rfl) (r82n h), fun val h => leaf h trivial (by kernel_rfl) (by kernel_rfl) (by kernel_rfl) (by kernel_rfl) (by kernel_rfl) (r82s1 h), fun val h => leaf h trivial (by kernel_rfl) (by kernel_rfl) (by kernel_rfl) (by kernel_rfl) (by kernel_rfl) (r82s2 h), fun val h => leaf h trivial (by kernel_rfl) (by kernel_rfl) (by kernel_rfl) (by kernel_rfl) (by kernel_rfl) (r82s4 h), fun val h => leaf h trivial (by kernel_rfl) (by kernel_rfl) (by kernel_rfl) (by kernel_rfl) (by kernel_rfl) (r82s8 h)⟩

theorem r87z {val : Nat → Int} (h : Holds val [lenF 87]) : runL val _ h 87 (a 2) tabZ = true := by kernel_rfl
theorem r87n {val : Nat → Int} (h : Holds val [lenF 87]) : runL val _ h 87 (a 2) tabN = true := by kernel_rfl
theorem r87s1 {val : Nat → Int} (h : Holds val (lenF 87 :: eqs 1)) : runL val _ h 87 (ci 1) (tabS 1) = true := by kernel_rfl
theorem r87s2 {val : Nat → Int} (h : Holds val (lenF 87 :: eqs 2)) : runL val _ h 87 (ci 2) (tabS 2) = true := by kernel_rfl
theorem r87s4 {val : Nat → Int} (h : Holds val (lenF 87 :: eqs 4)) : runL val _ h 87 (ci 4) (tabS 4) = true := by kernel_rfl
theorem r87s8 {val : Nat → Int} (h : Holds val (lenF 87 :: eqs 8)) : runL val _ h 87 (ci 8) (tabS 8) = true := by kernel_rfl
theorem d87 : DL 87 := ⟨fun val h => leaf h trivial (by kernel_rfl) (by kernel_rfl) (by kernel_rfl) (by kernel_rfl) (by kernel_rfl) (r87z h), fun val h => leaf h trivial (by kernel_rfl) (by kernel_rfl) (by kernel_rfl) (by kernel_rfl) (by kernel_rfl) (r87n h), fun val h => leaf h trivial (by kernel_rfl) (by kernel_rfl) (by kernel_rfl) (by kernel_rfl) (by kernel_rfl) (r87s1 h), fun val h => leaf h trivial (by kernel_rfl) (by kernel_rfl) (by kernel_rfl) (by kernel_rfl) (by kernel_rfl) (r87s2 h), fun val h => leaf h trivial (by kernel_rfl) (by kernel_rfl) (by kernel_rfl) (by kernel_rfl) (by kernel_rfl) (r87s4 h), fun val h => leaf h trivial (by kernel_rfl) (by kernel_rfl) (by kernel_rfl) (by kernel_rfl) (by kernel_rfl) (r87s8 h)⟩

theorem r92z {val : Nat → Int} (h : Holds val [lenF 92]) : runL val _ h 92 (a 2) tabZ = true := by kernel_rfl
theorem r92n {val : Nat → Int} (h : Holds val [lenF 92]) : runL val _ h 92 (a 2) tabN = true := by kernel_rfl
theorem r92s1 {val : Nat → Int} (h : Holds val (lenF 92 :: eqs 1)) : runL val _ h 92 (ci 1) (tabS 1) = true := by kernel_rfl
theorem r92s2 {val : Nat → Int} (h : Holds val (lenF 92 :: eqs 2)) : runL val _ h 92 (ci 2) (tabS 2) = true := by kernel_rfl
theorem r92s4 {val : Nat → Int} (h : Holds val (lenF 92 :: eqs 4)) : runL val _ h 92 (ci 4) (tabS 4) = true := by kernel_rfl
theorem r92s8 {val : Nat → Int} (h : Holds val (lenF 92 :: eqs 8)) : runL val _ h 92 (ci 8) (tabS 8) = true := by kernel_rfl
theorem d92 : DL 92 := ⟨fun val h => leaf h trivial (by kernel_rfl) (by kernel_rfl) (by kernel_rfl) (by kernel_rfl) (by kernel_rfl) (r92z h), fun val h => leaf h trivial (by kernel_rfl) (by kernel_rfl) (by kernel_rfl) (by kernel_rfl) (by kernel_rfl) (r92n h), fun val h => leaf h trivial (by kernel_rfl) (by kernel_rfl) (by kernel_rfl) (by kernel_rfl) (by kernel_rfl) (r92s1 h), fun val h => leaf h trivial (by kernel_rfl) (by kernel_rfl) (by kernel_rfl) (by kernel_rfl) (by kernel_rfl) (r92s2 h), fun val h => leaf h trivial (by kernel_rfl) (by kernel_rfl) (by kernel_rfl) (by kernel_rfl) (by kernel_rfl) (r92s4 h), fun val h => leaf h trivial (by kernel_rfl) (by kernel_rfl) (by kernel_rfl) (by kernel_rfl) (by kernel_rfl) (r92s8 h)⟩

theorem r97z {val : Nat → Int} (h : Holds val [lenF 97]) : runL val _ h 97 (a 2) tabZ = true := by kernel_rfl
theorem r97n {val : Nat → Int} (h : Holds val [lenF 97]) : runL val _ h 97 (a 2) tabN = true := by kernel_rfl
theorem r97s1 {val : Nat → Int} (h : Holds val (lenF 97 :: eqs 1)) : runL val _ h 97 (ci 1) (tabS 1) = true := by kernel_rfl
theorem r97s2 {val : Nat → Int} (h : Holds val (lenF 97 :: eqs 2)) : runL val _ h 97 (ci 2) (tabS 2) = true := by kernel_rfl
theorem r97s4 {val : Nat → Int} (h : Holds val (lenF 97 :: eqs 4)) : runL val _ h 97 (ci 4) (tabS 4) = true := by kernel_rfl
theorem r97s8 {val : Nat → Int} (h : Holds val (lenF 97 :: eqs 8)) : runL val _ h 97 (ci 8) (tabS 8) = true := by kernel_rfl
theorem d97 : DL 97 := ⟨fun val h => leaf h trivial (by kernel_rfl) (by kernel_rfl) (by kernel_rfl) (by kernel_rfl) (by kernel_rfl) (r97z h), fun val h => leaf h trivial (by kernel_rfl) (by kernel_rfl) (by kernel_rfl) (by kernel_rfl) (by kernel_rfl) (r97n h), fun val h => leaf h trivial (by kernel_rfl) (by kernel_rfl) (by kernel_rfl) (by kernel_rfl) (by kernel_rfl) (r97s1 h), fun val h => leaf h trivial (by kernel_rfl) (by kernel_rfl) (by kernel_rfl) (by kernel_rfl) (by kernel_rfl) (r97s2 h), fun val h => leaf h trivial (by kernel_rfl) (by kernel_rfl) (by kernel_rfl) (by kernel_rfl) (by kernel_rfl) (r97s4 h), fun val h => leaf h trivial (by kernel_rfl) (by kernel_rfl) (by kernel_rfl) (by kernel_rfl) (by kernel_rfl) (r97s8 h)⟩

end Go.Proofs.Ytclgmeoofmidfaa.TellsL
