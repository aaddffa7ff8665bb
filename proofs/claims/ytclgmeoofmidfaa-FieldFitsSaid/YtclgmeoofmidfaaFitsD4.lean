/-
  The law 'FieldFits', by widths: each way, run.
-/
import Derived.Test.YtclgmeoofmidfaaFitsH
namespace Go.Proofs.Ytclgmeoofmidfaa.FitsL
open Go.Sim Go.Proofs.Ytclgmeoofmidfaa.Fld
set_option maxRecDepth 100000

theorem d49_0000 {val : Nat → Int} (h : Holds val [.ge (.wrap .i64 (.add (.c (.ofNat 49)) (.a 5))) 65, .is (.a 1) (.ofNat 49), .ge (.a 5) 0, .le (.a 5) 63, .at (.eq (.a 3) (.a 4)) false, .at (.eq (.a 3) (.a 0)) false, .at (.eq (.a 4) (.a 0)) false, .ge (.a 4) 0, .is (.wrap .i64 (.sub (.a 4) (.a 3))) (.ofNat 562949953421312)]) (ht : TabOK Try.prog val sl0 (tabW 49 false false false)) : Q val := leaf h ht (by kernel_rfl) (by kernel_rfl) (by kernel_rfl)
theorem d49_0001 {val : Nat → Int} (h : Holds val [.le (.wrap .i64 (.add (.c (.ofNat 49)) (.a 5))) 64, .is (.a 1) (.ofNat 49), .ge (.a 5) 0, .le (.a 5) 63, .at (.eq (.a 3) (.a 4)) false, .at (.eq (.a 3) (.a 0)) false, .at (.eq (.a 4) (.a 0)) false, .ge (.a 4) 0, .is (.wrap .i64 (.sub (.a 4) (.a 3))) (.ofNat 562949953421312)]) (ht : TabOK Try.prog val sl0 (tabW 49 false false true)) : Q val := leaf h ht (by kernel_rfl) (by kernel_rfl) (by kernel_rfl)
theorem d49_0010 {val : Nat → Int} (h : Holds val [.ge (.wrap .i64 (.add (.c (.ofNat 49)) (.a 5))) 65, .is (.a 1) (.ofNat 49), .ge (.a 5) 0, .le (.a 5) 63, .at (.eq (.a 3) (.a 4)) false, .at (.eq (.a 3) (.a 0)) false, .at (.eq (.a 4) (.a 0)) true, .ge (.a 4) 0, .is (.wrap .i64 (.sub (.a 4) (.a 3))) (.ofNat 562949953421312)]) (ht : TabOK Try.prog val sl0 (tabW 49 false true false)) : Q val := leaf h ht (by kernel_rfl) (by kernel_rfl) (by kernel_rfl)
theorem d49_0011 {val : Nat → Int} (h : Holds val [.le (.wrap .i64 (.add (.c (.ofNat 49)) (.a 5))) 64, .is (.a 1) (.ofNat 49), .ge (.a 5) 0, .le (.a 5) 63, .at (.eq (.a 3) (.a 4)) false, .at (.eq (.a 3) (.a 0)) false, .at (.eq (.a 4) (.a 0)) true, .ge (.a 4) 0, .is (.wrap .i64 (.sub (.a 4) (.a 3))) (.ofNat 562949953421312)]) (ht : TabOK Try.prog val sl0 (tabW 49 false true true)) : Q val := leaf h ht (by kernel_rfl) (by kernel_rfl) (by kernel_rfl)
theorem d49_0110 {val : Nat → Int} (h : Holds val [.ge (.wrap .i64 (.add (.c (.ofNat 49)) (.a 5))) 65, .is (.a 1) (.ofNat 49), .ge (.a 5) 0, .le (.a 5) 63, .at (.eq (.a 3) (.a 4)) false, .at (.eq (.a 3) (.a 0)) true, .ge (.a 4) 0, .is (.wrap .i64 (.sub (.a 4) (.a 3))) (.ofNat 562949953421312)]) (ht : TabOK Try.prog val sl0 (tabW 49 true true false)) : Q val := leaf h ht (by kernel_rfl) (by kernel_rfl) (by kernel_rfl)
theorem d49_0111 {val : Nat → Int} (h : Holds val [.le (.wrap .i64 (.add (.c (.ofNat 49)) (.a 5))) 64, .is (.a 1) (.ofNat 49), .ge (.a 5) 0, .le (.a 5) 63, .at (.eq (.a 3) (.a 4)) false, .at (.eq (.a 3) (.a 0)) true, .ge (.a 4) 0, .is (.wrap .i64 (.sub (.a 4) (.a 3))) (.ofNat 562949953421312)]) (ht : TabOK Try.prog val sl0 (tabW 49 true true true)) : Q val := leaf h ht (by kernel_rfl) (by kernel_rfl) (by kernel_rfl)
theorem d49_1000 {val : Nat → Int} (h : Holds val [.ge (.wrap .i64 (.add (.c (.ofNat 49)) (.a 5))) 65, .is (.a 1) (.ofNat 49), .ge (.a 5) 0, .le (.a 5) 63, .at (.eq (.a 3) (.a 4)) true, .at (.eq (.a 3) (.a 0)) false, .at (.eq (.a 4) (.a 0)) false, .ge (.a 4) 0]) (ht : TabOK Try.prog val sl0 (tabW 49 false false false)) : Q val := leaf h ht (by kernel_rfl) (by kernel_rfl) (by kernel_rfl)
theorem d49_1001 {val : Nat → Int} (h : Holds val [.le (.wrap .i64 (.add (.c (.ofNat 49)) (.a 5))) 64, .is (.a 1) (.ofNat 49), .ge (.a 5) 0, .le (.a 5) 63, .at (.eq (.a 3) (.a 4)) true, .at (.eq (.a 3) (.a 0)) false, .at (.eq (.a 4) (.a 0)) false, .ge (.a 4) 0]) (ht : TabOK Try.prog val sl0 (tabW 49 false false true)) : Q val := leaf h ht (by kernel_rfl) (by kernel_rfl) (by kernel_rfl)
theorem d49_1110 {val : Nat → Int} (h : Holds val [.ge (.wrap .i64 (.add (.c (.ofNat 49)) (.a 5))) 65, .is (.a 1) (.ofNat 49), .ge (.a 5) 0, .le (.a 5) 63, .at (.eq (.a 3) (.a 4)) true, .at (.eq (.a 3) (.a 0)) true, .ge (.a 4) 0]) (ht : TabOK Try.prog val sl0 (tabW 49 true true false)) : Q val := leaf h ht (by kernel_rfl) (by kernel_rfl) (by kernel_rfl)
theorem d49_1111 {val : Nat → Int} (h : Holds val [.le (.wrap .i64 (.add (.c (.ofNat 49)) (.a 5))) 64, .is (.a 1) (.ofNat 49), .ge (.a 5) 0, .le (.a 5) 63, .at (.eq (.a 3) (.a 4)) true, .at (.eq (.a 3) (.a 0)) true, .ge (.a 4) 0]) (ht : TabOK Try.prog val sl0 (tabW 49 true true true)) : Q val := leaf h ht (by kernel_rfl) (by kernel_rfl) (by kernel_rfl)

theorem d49 : D 49 := by
  intro val e fb wb w h ht h1 h2 h3
  cases e <;> cases fb <;> cases wb <;> cases w
  · exact d49_0000 h ht
  · exact d49_0001 h ht
  · exact d49_0010 h ht
  · exact d49_0011 h ht
  · simp at h1 h2 h3
  · simp at h1 h2 h3
  · exact d49_0110 h ht
  · exact d49_0111 h ht
  · exact d49_1000 h ht
  · exact d49_1001 h ht
  · simp at h1 h2 h3
  · simp at h1 h2 h3
  · simp at h1 h2 h3
  · simp at h1 h2 h3
  · exact d49_1110 h ht
  · exact d49_1111 h ht

theorem d50_0000 {val : Nat → Int} (h : Holds val [.ge (.wrap .i64 (.add (.c (.ofNat 50)) (.a 5))) 65, .is (.a 1) (.ofNat 50), .ge (.a 5) 0, .le (.a 5) 63, .at (.eq (.a 3) (.a 4)) false, .at (.eq (.a 3) (.a 0)) false, .at (.eq (.a 4) (.a 0)) false, .ge (.a 4) 0, .is (.wrap .i64 (.sub (.a 4) (.a 3))) (.ofNat 1125899906842624)]) (ht : TabOK Try.prog val sl0 (tabW 50 false false false)) : Q val := leaf h ht (by kernel_rfl) (by kernel_rfl) (by kernel_rfl)
theorem d50_0001 {val : Nat → Int} (h : Holds val [.le (.wrap .i64 (.add (.c (.ofNat 50)) (.a 5))) 64, .is (.a 1) (.ofNat 50), .ge (.a 5) 0, .le (.a 5) 63, .at (.eq (.a 3) (.a 4)) false, .at (.eq (.a 3) (.a 0)) false, .at (.eq (.a 4) (.a 0)) false, .ge (.a 4) 0, .is (.wrap .i64 (.sub (.a 4) (.a 3))) (.ofNat 1125899906842624)]) (ht : TabOK Try.prog val sl0 (tabW 50 false false true)) : Q val := leaf h ht (by kernel_rfl) (by kernel_rfl) (by kernel_rfl)
theorem d50_0010 {val : Nat → Int} (h : Holds val [.ge (.wrap .i64 (.add (.c (.ofNat 50)) (.a 5))) 65, .is (.a 1) (.ofNat 50), .ge (.a 5) 0, .le (.a 5) 63, .at (.eq (.a 3) (.a 4)) false, .at (.eq (.a 3) (.a 0)) false, .at (.eq (.a 4) (.a 0)) true, .ge (.a 4) 0, .is (.wrap .i64 (.sub (.a 4) (.a 3))) (.ofNat 1125899906842624)]) (ht : TabOK Try.prog val sl0 (tabW 50 false true false)) : Q val := leaf h ht (by kernel_rfl) (by kernel_rfl) (by kernel_rfl)
theorem d50_0011 {val : Nat → Int} (h : Holds val [.le (.wrap .i64 (.add (.c (.ofNat 50)) (.a 5))) 64, .is (.a 1) (.ofNat 50), .ge (.a 5) 0, .le (.a 5) 63, .at (.eq (.a 3) (.a 4)) false, .at (.eq (.a 3) (.a 0)) false, .at (.eq (.a 4) (.a 0)) true, .ge (.a 4) 0, .is (.wrap .i64 (.sub (.a 4) (.a 3))) (.ofNat 1125899906842624)]) (ht : TabOK Try.prog val sl0 (tabW 50 false true true)) : Q val := leaf h ht (by kernel_rfl) (by kernel_rfl) (by kernel_rfl)
theorem d50_0110 {val : Nat → Int} (h : Holds val [.ge (.wrap .i64 (.add (.c (.ofNat 50)) (.a 5))) 65, .is (.a 1) (.ofNat 50), .ge (.a 5) 0, .le (.a 5) 63, .at (.eq (.a 3) (.a 4)) false, .at (.eq (.a 3) (.a 0)) true, .ge (.a 4) 0, .is (.wrap .i64 (.sub (.a 4) (.a 3))) (.ofNat 1125899906842624)]) (ht : TabOK Try.prog val sl0 (tabW 50 true true false)) : Q val := leaf h ht (by kernel_rfl) (by kernel_rfl) (by kernel_rfl)
theorem d50_0111 {val : Nat → Int} (h : Holds val [.le (.wrap .i64 (.add (.c (.ofNat 50)) (.a 5))) 64, .is (.a 1) (.ofNat 50), .ge (.a 5) 0, .le (.a 5) 63, .at (.eq (.a 3) (.a 4)) false, .at (.eq (.a 3) (.a 0)) true, .ge (.a 4) 0, .is (.wrap .i64 (.sub (.a 4) (.a 3))) (.ofNat 1125899906842624)]) (ht : TabOK Try.prog val sl0 (tabW 50 true true true)) : Q val := leaf h ht (by kernel_rfl) (by kernel_rfl) (by kernel_rfl)
theorem d50_1000 {val : Nat → Int} (h : Holds val [.ge (.wrap .i64 (.add (.c (.ofNat 50)) (.a 5))) 65, .is (.a 1) (.ofNat 50), .ge (.a 5) 0, .le (.a 5) 63, .at (.eq (.a 3) (.a 4)) true, .at (.eq (.a 3) (.a 0)) false, .at (.eq (.a 4) (.a 0)) false, .ge (.a 4) 0]) (ht : TabOK Try.prog val sl0 (tabW 50 false false false)) : Q val := leaf h ht (by kernel_rfl) (by kernel_rfl) (by kernel_rfl)
theorem d50_1001 {val : Nat → Int} (h : Holds val [.le (.wrap .i64 (.add (.c (.ofNat 50)) (.a 5))) 64, .is (.a 1) (.ofNat 50), .ge (.a 5) 0, .le (.a 5) 63, .at (.eq (.a 3) (.a 4)) true, .at (.eq (.a 3) (.a 0)) false, .at (.eq (.a 4) (.a 0)) false, .ge (.a 4) 0]) (ht : TabOK Try.prog val sl0 (tabW 50 false false true)) : Q val := leaf h ht (by kernel_rfl) (by kernel_rfl) (by kernel_rfl)
theorem d50_1110 {val : Nat → Int} (h : Holds val [.ge (.wrap .i64 (.add (.c (.ofNat 50)) (.a 5))) 65, .is (.a 1) (.ofNat 50), .ge (.a 5) 0, .le (.a 5) 63, .at (.eq (.a 3) (.a 4)) true, .at (.eq (.a 3) (.a 0)) true, .ge (.a 4) 0]) (ht : TabOK Try.prog val sl0 (tabW 50 true true false)) : Q val := leaf h ht (by kernel_rfl) (by kernel_rfl) (by kernel_rfl)
theorem d50_1111 {val : Nat → Int} (h : Holds val [.le (.wrap .i64 (.add (.c (.ofNat 50)) (.a 5))) 64, .is (.a 1) (.ofNat 50), .ge (.a 5) 0, .le (.a 5) 63, .at (.eq (.a 3) (.a 4)) true, .at (.eq (.a 3) (.a 0)) true, .ge (.a 4) 0]) (ht : TabOK Try.prog val sl0 (tabW 50 true true true)) : Q val := leaf h ht (by kernel_rfl) (by kernel_rfl) (by kernel_rfl)

theorem d50 : D 50 := by
  intro val e fb wb w h ht h1 h2 h3
  cases e <;> cases fb <;> cases wb <;> cases w
  · exact d50_0000 h ht
  · exact d50_0001 h ht
  · exact d50_0010 h ht
  · exact d50_0011 h ht
  · simp at h1 h2 h3
  · simp at h1 h2 h3
  · exact d50_0110 h ht
  · exact d50_0111 h ht
  · exact d50_1000 h ht
  · exact d50_1001 h ht
  · simp at h1 h2 h3
  · simp at h1 h2 h3
  · simp at h1 h2 h3
  · simp at h1 h2 h3
  · exact d50_1110 h ht
  · exact d50_1111 h ht

theorem d51_0000 {val : Nat → Int} (h : Holds val [.ge (.wrap .i64 (.add (.c (.ofNat 51)) (.a 5))) 65, .is (.a 1) (.ofNat 51), .ge (.a 5) 0, .le (.a 5) 63, .at (.eq (.a 3) (.a 4)) false, .at (.eq (.a 3) (.a 0)) false, .at (.eq (.a 4) (.a 0)) false, .ge (.a 4) 0, .is (.wrap .i64 (.sub (.a 4) (.a 3))) (.ofNat 2251799813685248)]) (ht : TabOK Try.prog val sl0 (tabW 51 false false false)) : Q val := leaf h ht (by kernel_rfl) (by kernel_rfl) (by kernel_rfl)
theorem d51_0001 {val : Nat → Int} (h : Holds val [.le (.wrap .i64 (.add (.c (.ofNat 51)) (.a 5))) 64, .is (.a 1) (.ofNat 51), .ge (.a 5) 0, .le (.a 5) 63, .at (.eq (.a 3) (.a 4)) false, .at (.eq (.a 3) (.a 0)) false, .at (.eq (.a 4) (.a 0)) false, .ge (.a 4) 0, .is (.wrap .i64 (.sub (.a 4) (.a 3))) (.ofNat 2251799813685248)]) (ht : TabOK Try.prog val sl0 (tabW 51 false false true)) : Q val := leaf h ht (by kernel_rfl) (by kernel_rfl) (by kernel_rfl)
theorem d51_0010 {val : Nat → Int} (h : Holds val [.ge (.wrap .i64 (.add (.c (.ofNat 51)) (.a 5))) 65, .is (.a 1) (.ofNat 51), .ge (.a 5) 0, .le (.a 5) 63, .at (.eq (.a 3) (.a 4)) false, .at (.eq (.a 3) (.a 0)) false, .at (.eq (.a 4) (.a 0)) true, .ge (.a 4) 0, .is (.wrap .i64 (.sub (.a 4) (.a 3))) (.ofNat 2251799813685248)]) (ht : TabOK Try.prog val sl0 (tabW 51 false true false)) : Q val := leaf h ht (by kernel_rfl) (by kernel_rfl) (by kernel_rfl)
theorem d51_0011 {val : Nat → Int} (h : Holds val [.le (.wrap .i64 (.add (.c (.ofNat 51)) (.a 5))) 64, .is (.a 1) (.ofNat 51), .ge (.a 5) 0, .le (.a 5) 63, .at (.eq (.a 3) (.a 4)) false, .at (.eq (.a 3) (.a 0)) false, .at (.eq (.a 4) (.a 0)) true, .ge (.a 4) 0, .is (.wrap .i64 (.sub (.a 4) (.a 3))) (.ofNat 2251799813685248)]) (ht : TabOK Try.prog val sl0 (tabW 51 false true true)) : Q val := leaf h ht (by kernel_rfl) (by kernel_rfl) (by kernel_rfl)
theorem d51_0110 {val : Nat → Int} (h : Holds val [.ge (.wrap .i64 (.add (.c (.ofNat 51)) (.a 5))) 65, .is (.a 1) (.ofNat 51), .ge (.a 5) 0, .le (.a 5) 63, .at (.eq (.a 3) (.a 4)) false, .at (.eq (.a 3) (.a 0)) true, .ge (.a 4) 0, .is (.wrap .i64 (.sub (.a 4) (.a 3))) (.ofNat 2251799813685248)]) (ht : TabOK Try.prog val sl0 (tabW 51 true true false)) : Q val := leaf h ht (by kernel_rfl) (by kernel_rfl) (by kernel_rfl)
theorem d51_0111 {val : Nat → Int} (h : Holds val [.le (.wrap .i64 (.add (.c (.ofNat 51)) (.a 5))) 64, .is (.a 1) (.ofNat 51), .ge (.a 5) 0, .le (.a 5) 63, .at (.eq (.a 3) (.a 4)) false, .at (.eq (.a 3) (.a 0)) true, .ge (.a 4) 0, .is (.wrap .i64 (.sub (.a 4) (.a 3))) (.ofNat 2251799813685248)]) (ht : TabOK Try.prog val sl0 (tabW 51 true true true)) : Q val := leaf h ht (by kernel_rfl) (by kernel_rfl) (by kernel_rfl)
theorem d51_1000 {val : Nat → Int} (h : Holds val [.ge (.wrap .i64 (.add (.c (.ofNat 51)) (.a 5))) 65, .is (.a 1) (.ofNat 51), .ge (.a 5) 0, .le (.a 5) 63, .at (.eq (.a 3) (.a 4)) true, .at (.eq (.a 3) (.a 0)) false, .at (.eq (.a 4) (.a 0)) false, .ge (.a 4) 0]) (ht : TabOK Try.prog val sl0 (tabW 51 false false false)) : Q val := leaf h ht (by kernel_rfl) (by kernel_rfl) (by kernel_rfl)
theorem d51_1001 {val : Nat → Int} (h : Holds val [.le (.wrap .i64 (.add (.c (.ofNat 51)) (.a 5))) 64, .is (.a 1) (.ofNat 51), .ge (.a 5) 0, .le (.a 5) 63, .at (.eq (.a 3) (.a 4)) true, .at (.eq (.a 3) (.a 0)) false, .at (.eq (.a 4) (.a 0)) false, .ge (.a 4) 0]) (ht : TabOK Try.prog val sl0 (tabW 51 false false true)) : Q val := leaf h ht (by kernel_rfl) (by kernel_rfl) (by kernel_rfl)
theorem d51_1110 {val : Nat → Int} (h : Holds val [.ge (.wrap .i64 (.add (.c (.ofNat 51)) (.a 5))) 65, .is (.a 1) (.ofNat 51), .ge (.a 5) 0, .le (.a 5) 63, .at (.eq (.a 3) (.a 4)) true, .at (.eq (.a 3) (.a 0)) true, .ge (.a 4) 0]) (ht : TabOK Try.prog val sl0 (tabW 51 true true false)) : Q val := leaf h ht (by kernel_rfl) (by kernel_rfl) (by kernel_rfl)
theorem d51_1111 {val : Nat → Int} (h : Holds val [.le (.wrap .i64 (.add (.c (.ofNat 51)) (.a 5))) 64, .is (.a 1) (.ofNat 51), .ge (.a 5) 0, .le (.a 5) 63, .at (.eq (.a 3) (.a 4)) true, .at (.eq (.a 3) (.a 0)) true, .ge (.a 4) 0]) (ht : TabOK Try.prog val sl0 (tabW 51 true true true)) : Q val := leaf h ht (by kernel_rfl) (by kernel_rfl) (by kernel_rfl)

theorem d51 : D 51 := by
  intro val e fb wb w h ht h1 h2 h3
  cases e <;> cases fb <;> cases wb <;> cases w
  · exact d51_0000 h ht
  · exact d51_0001 h ht
  · exact d51_0010 h ht
  · exact d51_0011 h ht
  · simp at h1 h2 h3
  · simp at h1 h2 h3
  · exact d51_0110 h ht
  · exact d51_0111 h ht
  · exact d51_1000 h ht
  · exact d51_1001 h ht
  · simp at h1 h2 h3
  · simp at h1 h2 h3
  · simp at h1 h2 h3
  · simp at h1 h2 h3
  · exact d51_1110 h ht
  · exact d51_1111 h ht

theorem d52_0000 {val : Nat → Int} (h : Holds val [.ge (.wrap .i64 (.add (.c (.ofNat 52)) (.a 5))) 65, .is (.a 1) (.ofNat 52), .ge (.a 5) 0, .le (.a 5) 63, .at (.eq (.a 3) (.a 4)) false, .at (.eq (.a 3) (.a 0)) false, .at (.eq (.a 4) (.a 0)) false, .ge (.a 4) 0, .is (.wrap .i64 (.sub (.a 4) (.a 3))) (.ofNat 4503599627370496)]) (ht : TabOK Try.prog val sl0 (tabW 52 false false false)) : Q val := leaf h ht (by kernel_rfl) (by kernel_rfl) (by kernel_rfl)
theorem d52_0001 {val : Nat → Int} (h : Holds val [.le (.wrap .i64 (.add (.c (.ofNat 52)) (.a 5))) 64, .is (.a 1) (.ofNat 52), .ge (.a 5) 0, .le (.a 5) 63, .at (.eq (.a 3) (.a 4)) false, .at (.eq (.a 3) (.a 0)) false, .at (.eq (.a 4) (.a 0)) false, .ge (.a 4) 0, .is (.wrap .i64 (.sub (.a 4) (.a 3))) (.ofNat 4503599627370496)]) (ht : TabOK Try.prog val sl0 (tabW 52 false false true)) : Q val := leaf h ht (by kernel_rfl) (by kernel_rfl) (by kernel_rfl)
theorem d52_0010 {val : Nat → Int} (h : Holds val [.ge (.wrap .i64 (.add (.c (.ofNat 52)) (.a 5))) 65, .is (.a 1) (.ofNat 52), .ge (.a 5) 0, .le (.a 5) 63, .at (.eq (.a 3) (.a 4)) false, .at (.eq (.a 3) (.a 0)) false, .at (.eq (.a 4) (.a 0)) true, .ge (.a 4) 0, .is (.wrap .i64 (.sub (.a 4) (.a 3))) (.ofNat 4503599627370496)]) (ht : TabOK Try.prog val sl0 (tabW 52 false true false)) : Q val := leaf h ht (by kernel_rfl) (by kernel_rfl) (by kernel_rfl)
theorem d52_0011 {val : Nat → Int} (h : Holds val [.le (.wrap .i64 (.add (.c (.ofNat 52)) (.a 5))) 64, .is (.a 1) (.ofNat 52), .ge (.a 5) 0, .le (.a 5) 63, .at (.eq (.a 3) (.a 4)) false, .at (.eq (.a 3) (.a 0)) false, .at (.eq (.a 4) (.a 0)) true, .ge (.a 4) 0, .is (.wrap .i64 (.sub (.a 4) (.a 3))) (.ofNat 4503599627370496)]) (ht : TabOK Try.prog val sl0 (tabW 52 false true true)) : Q val := leaf h ht (by kernel_rfl) (by kernel_rfl) (by kernel_rfl)
theorem d52_0110 {val : Nat → Int} (h : Holds val [.ge (.wrap .i64 (.add (.c (.ofNat 52)) (.a 5))) 65, .is (.a 1) (.ofNat 52), .ge (.a 5) 0, .le (.a 5) 63, .at (.eq (.a 3) (.a 4)) false, .at (.eq (.a 3) (.a 0)) true, .ge (.a 4) 0, .is (.wrap .i64 (.sub (.a 4) (.a 3))) (.ofNat 4503599627370496)]) (ht : TabOK Try.prog val sl0 (tabW 52 true true false)) : Q val := leaf h ht (by kernel_rfl) (by kernel_rfl) (by kernel_rfl)
theorem d52_0111 {val : Nat → Int} (h : Holds val [.le (.wrap .i64 (.add (.c (.ofNat 52)) (.a 5))) 64, .is (.a 1) (.ofNat 52), .ge (.a 5) 0, .le (.a 5) 63, .at (.eq (.a 3) (.a 4)) false, .at (.eq (.a 3) (.a 0)) true, .ge (.a 4) 0, .is (.wrap .i64 (.sub (.a 4) (.a 3))) (.ofNat 4503599627370496)]) (ht : TabOK Try.prog val sl0 (tabW 52 true true true)) : Q val := leaf h ht (by kernel_rfl) (by kernel_rfl) (by kernel_rfl)
theorem d52_1000 {val : Nat → Int} (h : Holds val [.ge (.wrap .i64 (.add (.c (.ofNat 52)) (.a 5))) 65, .is (.a 1) (.ofNat 52), .ge (.a 5) 0, .le (.a 5) 63, .at (.eq (.a 3) (.a 4)) true, .at (.eq (.a 3) (.a 0)) false, .at (.eq (.a 4) (.a 0)) false, .ge (.a 4) 0]) (ht : TabOK Try.prog val sl0 (tabW 52 false false false)) : Q val := leaf h ht (by kernel_rfl) (by kernel_rfl) (by kernel_rfl)
theorem d52_1001 {val : Nat → Int} (h : Holds val [.le (.wrap .i64 (.add (.c (.ofNat 52)) (.a 5))) 64, .is (.a 1) (.ofNat 52), .ge (.a 5) 0, .le (.a 5) 63, .at (.eq (.a 3) (.a 4)) true, .at (.eq (.a 3) (.a 0)) false, .at (.eq (.a 4) (.a 0)) false, .ge (.a 4) 0]) (ht : TabOK Try.prog val sl0 (tabW 52 false false true)) : Q val := leaf h ht (by kernel_rfl) (by kernel_rfl) (by kernel_rfl)
theorem d52_1110 {val : Nat → Int} (h : Holds val [.ge (.wrap .i64 (.add (.c (.ofNat 52)) (.a 5))) 65, .is (.a 1) (.ofNat 52), .ge (.a 5) 0, .le (.a 5) 63, .at (.eq (.a 3) (.a 4)) true, .at (.eq (.a 3) (.a 0)) true, .ge (.a 4) 0]) (ht : TabOK Try.prog val sl0 (tabW 52 true true false)) : Q val := leaf h ht (by kernel_rfl) (by kernel_rfl) (by kernel_rfl)
theorem d52_1111 {val : Nat → Int} (h : Holds val [.le (.wrap .i64 (.add (.c (.ofNat 52)) (.a 5))) 64, .is (.a 1) (.ofNat 52), .ge (.a 5) 0, .le (.a 5) 63, .at (.eq (.a 3) (.a 4)) true, .at (.eq (.a 3) (.a 0)) true, .ge (.a 4) 0]) (ht : TabOK Try.prog val sl0 (tabW 52 true true true)) : Q val := leaf h ht (by kernel_rfl) (by kernel_rfl) (by kernel_rfl)

theorem d52 : D 52 := by
  intro val e fb wb w h ht h1 h2 h3
  cases e <;> cases fb <;> cases wb <;> cases w
  · exact d52_0000 h ht
  · exact d52_0001 h ht
  · exact d52_0010 h ht
  · exact d52_0011 h ht
  · simp at h1 h2 h3
  · simp at h1 h2 h3
  · exact d52_0110 h ht
  · exact d52_0111 h ht
  · exact d52_1000 h ht
  · exact d52_1001 h ht
  · simp at h1 h2 h3
  · simp at h1 h2 h3
  · simp at h1 h2 h3
  · simp at h1 h2 h3
  · exact d52_1110 h ht
  · exact d52_1111 h ht

theorem d53_0000 {val : Nat → Int} (h : Holds val [.ge (.wrap .i64 (.add (.c (.ofNat 53)) (.a 5))) 65, .is (.a 1) (.ofNat 53), .ge (.a 5) 0, .le (.a 5) 63, .at (.eq (.a 3) (.a 4)) false, .at (.eq (.a 3) (.a 0)) false, .at (.eq (.a 4) (.a 0)) false, .ge (.a 4) 0, .is (.wrap .i64 (.sub (.a 4) (.a 3))) (.ofNat 9007199254740992)]) (ht : TabOK Try.prog val sl0 (tabW 53 false false false)) : Q val := leaf h ht (by kernel_rfl) (by kernel_rfl) (by kernel_rfl)
theorem d53_0001 {val : Nat → Int} (h : Holds val [.le (.wrap .i64 (.add (.c (.ofNat 53)) (.a 5))) 64, .is (.a 1) (.ofNat 53), .ge (.a 5) 0, .le (.a 5) 63, .at (.eq (.a 3) (.a 4)) false, .at (.eq (.a 3) (.a 0)) false, .at (.eq (.a 4) (.a 0)) false, .ge (.a 4) 0, .is (.wrap .i64 (.sub (.a 4) (.a 3))) (.ofNat 9007199254740992)]) (ht : TabOK Try.prog val sl0 (tabW 53 false false true)) : Q val := leaf h ht (by kernel_rfl) (by kernel_rfl) (by kernel_rfl)
theorem d53_0010 {val : Nat → Int} (h : Holds val [.ge (.wrap .i64 (.add (.c (.ofNat 53)) (.a 5))) 65, .is (.a 1) (.ofNat 53), .ge (.a 5) 0, .le (.a 5) 63, .at (.eq (.a 3) (.a 4)) false, .at (.eq (.a 3) (.a 0)) false, .at (.eq (.a 4) (.a 0)) true, .ge (.a 4) 0, .is (.wrap .i64 (.sub (.a 4) (.a 3))) (.ofNat 9007199254740992)]) (ht : TabOK Try.prog val sl0 (tabW 53 false true false)) : Q val := leaf h ht (by kernel_rfl) (by kernel_rfl) (by kernel_rfl)
theorem d53_0011 {val : Nat → Int} (h : Holds val [.le (.wrap .i64 (.add (.c (.ofNat 53)) (.a 5))) 64, .is (.a 1) (.ofNat 53), .ge (.a 5) 0, .le (.a 5) 63, .at (.eq (.a 3) (.a 4)) false, .at (.eq (.a 3) (.a 0)) false, .at (.eq (.a 4) (.a 0)) true, .ge (.a 4) 0, .is (.wrap .i64 (.sub (.a 4) (.a 3))) (.ofNat 9007199254740992)]) (ht : TabOK Try.prog val sl0 (tabW 53 false true true)) : Q val := leaf h ht (by kernel_rfl) (by kernel_rfl) (by kernel_rfl)
theorem d53_0110 {val : Nat → Int} (h : Holds val [.ge (.wrap .i64 (.add (.c (.ofNat 53)) (.a 5))) 65, .is (.a 1) (.ofNat 53), .ge (.a 5) 0, .le (.a 5) 63, .at (.eq (.a 3) (.a 4)) false, .at (.eq (.a 3) (.a 0)) true, .ge (.a 4) 0, .is (.wrap .i64 (.sub (.a 4) (.a 3))) (.ofNat 9007199254740992)]) (ht : TabOK Try.prog val sl0 (tabW 53 true true false)) : Q val := leaf h ht (by kernel_rfl) (by kernel_rfl) (by kernel_rfl)
theorem d53_0111 {val : Nat → Int} (h : Holds val [.le (.wrap .i64 (.add (.c (.ofNat 53)) (.a 5))) 64, .is (.a 1) (.ofNat 53), .ge (.a 5) 0, .le (.a 5) 63, .at (.eq (.a 3) (.a 4)) false, .at (.eq (.a 3) (.a 0)) true, .ge (.a 4) 0, .is (.wrap .i64 (.sub (.a 4) (.a 3))) (.ofNat 9007199254740992)]) (ht : TabOK Try.prog val sl0 (tabW 53 true true true)) : Q val := leaf h ht (by kernel_rfl) (by kernel_rfl) (by kernel_rfl)
theorem d53_1000 {val : Nat → Int} (h : Holds val [.ge (.wrap .i64 (.add (.c (.ofNat 53)) (.a 5))) 65, .is (.a 1) (.ofNat 53), .ge (.a 5) 0, .le (.a 5) 63, .at (.eq (.a 3) (.a 4)) true, .at (.eq (.a 3) (.a 0)) false, .at (.eq (.a 4) (.a 0)) false, .ge (.a 4) 0]) (ht : TabOK Try.prog val sl0 (tabW 53 false false false)) : Q val := leaf h ht (by kernel_rfl) (by kernel_rfl) (by kernel_rfl)
theorem d53_1001 {val : Nat → Int} (h : Holds val [.le (.wrap .i64 (.add (.c (.ofNat 53)) (.a 5))) 64, .is (.a 1) (.ofNat 53), .ge (.a 5) 0, .le (.a 5) 63, .at (.eq (.a 3) (.a 4)) true, .at (.eq (.a 3) (.a 0)) false, .at (.eq (.a 4) (.a 0)) false, .ge (.a 4) 0]) (ht : TabOK Try.prog val sl0 (tabW 53 false false true)) : Q val := leaf h ht (by kernel_rfl) (by kernel_rfl) (by kernel_rfl)
theorem d53_1110 {val : Nat → Int} (h : Holds val [.ge (.wrap .i64 (.add (.c (.ofNat 53)) (.a 5))) 65, .is (.a 1) (.ofNat 53), .ge (.a 5) 0, .le (.a 5) 63, .at (.eq (.a 3) (.a 4)) true, .at (.eq (.a 3) (.a 0)) true, .ge (.a 4) 0]) (ht : TabOK Try.prog val sl0 (tabW 53 true true false)) : Q val := leaf h ht (by kernel_rfl) (by kernel_rfl) (by kernel_rfl)
theorem d53_1111 {val : Nat → Int} (h : Holds val [.le (.wrap .i64 (.add (.c (.ofNat 53)) (.a 5))) 64, .is (.a 1) (.ofNat 53), .ge (.a 5) 0, .le (.a 5) 63, .at (.eq (.a 3) (.a 4)) true, .at (.eq (.a 3) (.a 0)) true, .ge (.a 4) 0]) (ht : TabOK Try.prog val sl0 (tabW 53 true true true)) : Q val := leaf h ht (by kernel_rfl) (by kernel_rfl) (by kernel_rfl)

theorem d53 : D 53 := by
  intro val e fb wb w h ht h1 h2 h3
  cases e <;> cases fb <;> cases wb <;> cases w
  · exact d53_0000 h ht
  · exact d53_0001 h ht
  · exact d53_0010 h ht
  · exact d53_0011 h ht
  · simp at h1 h2 h3
  · simp at h1 h2 h3
  · exact d53_0110 h ht
  · exact d53_0111 h ht
  · exact d53_1000 h ht
  · exact d53_1001 h ht
  · simp at h1 h2 h3
  · simp at h1 h2 h3
  · simp at h1 h2 h3
  · simp at h1 h2 h3
  · exact d53_1110 h ht
  · exact d53_1111 h ht

theorem d54_0000 {val : Nat → Int} (h : Holds val [.ge (.wrap .i64 (.add (.c (.ofNat 54)) (.a 5))) 65, .is (.a 1) (.ofNat 54), .ge (.a 5) 0, .le (.a 5) 63, .at (.eq (.a 3) (.a 4)) false, .at (.eq (.a 3) (.a 0)) false, .at (.eq (.a 4) (.a 0)) false, .ge (.a 4) 0, .is (.wrap .i64 (.sub (.a 4) (.a 3))) (.ofNat 18014398509481984)]) (ht : TabOK Try.prog val sl0 (tabW 54 false false false)) : Q val := leaf h ht (by kernel_rfl) (by kernel_rfl) (by kernel_rfl)
theorem d54_0001 {val : Nat → Int} (h : Holds val [.le (.wrap .i64 (.add (.c (.ofNat 54)) (.a 5))) 64, .is (.a 1) (.ofNat 54), .ge (.a 5) 0, .le (.a 5) 63, .at (.eq (.a 3) (.a 4)) false, .at (.eq (.a 3) (.a 0)) false, .at (.eq (.a 4) (.a 0)) false, .ge (.a 4) 0, .is (.wrap .i64 (.sub (.a 4) (.a 3))) (.ofNat 18014398509481984)]) (ht : TabOK Try.prog val sl0 (tabW 54 false false true)) : Q val := leaf h ht (by kernel_rfl) (by kernel_rfl) (by kernel_rfl)
theorem d54_0010 {val : Nat → Int} (h : Holds val [.ge (.wrap .i64 (.add (.c (.ofNat 54)) (.a 5))) 65, .is (.a 1) (.ofNat 54), .ge (.a 5) 0, .le (.a 5) 63, .at (.eq (.a 3) (.a 4)) false, .at (.eq (.a 3) (.a 0)) false, .at (.eq (.a 4) (.a 0)) true, .ge (.a 4) 0, .is (.wrap .i64 (.sub (.a 4) (.a 3))) (.ofNat 18014398509481984)]) (ht : TabOK Try.prog val sl0 (tabW 54 false true false)) : Q val := leaf h ht (by kernel_rfl) (by kernel_rfl) (by kernel_rfl)
theorem d54_0011 {val : Nat → Int} (h : Holds val [.le (.wrap .i64 (.add (.c (.ofNat 54)) (.a 5))) 64, .is (.a 1) (.ofNat 54), .ge (.a 5) 0, .le (.a 5) 63, .at (.eq (.a 3) (.a 4)) false, .at (.eq (.a 3) (.a 0)) false, .at (.eq (.a 4) (.a 0)) true, .ge (.a 4) 0, .is (.wrap .i64 (.sub (.a 4) (.a 3))) (.ofNat 18014398509481984)]) (ht : TabOK Try.prog val sl0 (tabW 54 false true true)) : Q val := leaf h ht (by kernel_rfl) (by kernel_rfl) (by kernel_rfl)
theorem d54_0110 {val : Nat → Int} (h : Holds val [.ge (.wrap .i64 (.add (.c (.ofNat 54)) (.a 5))) 65, .is (.a 1) (.ofNat 54), .ge (.a 5) 0, .le (.a 5) 63, .at (.eq (.a 3) (.a 4)) false, .at (.eq (.a 3) (.a 0)) true, .ge (.a 4) 0, .is (.wrap .i64 (.sub (.a 4) (.a 3))) (.ofNat 18014398509481984)]) (ht : TabOK Try.prog val sl0 (tabW 54 true true false)) : Q val := leaf h ht (by kernel_rfl) (by kernel_rfl) (by kernel_rfl)
theorem d54_0111 {val : Nat → Int} (h : Holds val [.le (.wrap .i64 (.add (.c (.ofNat 54)) (.a 5))) 64, .is (.a 1) (.ofNat 54), .ge (.a 5) 0, .le (.a 5) 63, .at (.eq (.a 3) (.a 4)) false, .at (.eq (.a 3) (.a 0)) true, .ge (.a 4) 0, .is (.wrap .i64 (.sub (.a 4) (.a 3))) (.ofNat 18014398509481984)]) (ht : TabOK Try.prog val sl0 (tabW 54 true true true)) : Q val := leaf h ht (by kernel_rfl) (by kernel_rfl) (by kernel_rfl)
theorem d54_1000 {val : Nat → Int} (h : Holds val [.ge (.wrap .i64 (.add (.c (.ofNat 54)) (.a 5))) 65, .is (.a 1) (.ofNat 54), .ge (.a 5) 0, .le (.a 5) 63, .at (.eq (.a 3) (.a 4)) true, .at (.eq (.a 3) (.a 0)) false, .at (.eq (.a 4) (.a 0)) false, .ge (.a 4) 0]) (ht : TabOK Try.prog val sl0 (tabW 54 false false false)) : Q val := leaf h ht (by kernel_rfl) (by kernel_rfl) (by kernel_rfl)
theorem d54_1001 {val : Nat → Int} (h : Holds val [.le (.wrap .i64 (.add (.c (.ofNat 54)) (.a 5))) 64, .is (.a 1) (.ofNat 54), .ge (.a 5) 0, .le (.a 5) 63, .at (.eq (.a 3) (.a 4)) true, .at (.eq (.a 3) (.a 0)) false, .at (.eq (.a 4) (.a 0)) false, .ge (.a 4) 0]) (ht : TabOK Try.prog val sl0 (tabW 54 false false true)) : Q val := leaf h ht (by kernel_rfl) (by kernel_rfl) (by kernel_rfl)
theorem d54_1110 {val : Nat → Int} (h : Holds val [.ge (.wrap .i64 (.add (.c (.ofNat 54)) (.a 5))) 65, .is (.a 1) (.ofNat 54), .ge (.a 5) 0, .le (.a 5) 63, .at (.eq (.a 3) (.a 4)) true, .at (.eq (.a 3) (.a 0)) true, .ge (.a 4) 0]) (ht : TabOK Try.prog val sl0 (tabW 54 true true false)) : Q val := leaf h ht (by kernel_rfl) (by kernel_rfl) (by kernel_rfl)
theorem d54_1111 {val : Nat → Int} (h : Holds val [.le (.wrap .i64 (.add (.c (.ofNat 54)) (.a 5))) 64, .is (.a 1) (.ofNat 54), .ge (.a 5) 0, .le (.a 5) 63, .at (.eq (.a 3) (.a 4)) true, .at (.eq (.a 3) (.a 0)) true, .ge (.a 4) 0]) (ht : TabOK Try.prog val sl0 (tabW 54 true true true)) : Q val := leaf h ht (by kernel_rfl) (by kernel_rfl) (by kernel_rfl)

theorem d54 : D 54 := by
  intro val e fb wb w h ht h1 h2 h3
  cases e <;> cases fb <;> cases wb <;> cases w
  · exact d54_0000 h ht
  · exact d54_0001 h ht
  · exact d54_0010 h ht
  · exact d54_0011 h ht
  · simp at h1 h2 h3
  · simp at h1 h2 h3
  · exact d54_0110 h ht
  · exact d54_0111 h ht
  · exact d54_1000 h ht
  · exact d54_1001 h ht
  · simp at h1 h2 h3
  · simp at h1 h2 h3
  · simp at h1 h2 h3
  · simp at h1 h2 h3
  · exact d54_1110 h ht
  · exact d54_1111 h ht

theorem d55_0000 {val : Nat → Int} (h : Holds val [.ge (.wrap .i64 (.add (.c (.ofNat 55)) (.a 5))) 65, .is (.a 1) (.ofNat 55), .ge (.a 5) 0, .le (.a 5) 63, .at (.eq (.a 3) (.a 4)) false, .at (.eq (.a 3) (.a 0)) false, .at (.eq (.a 4) (.a 0)) false, .ge (.a 4) 0, .is (.wrap .i64 (.sub (.a 4) (.a 3))) (.ofNat 36028797018963968)]) (ht : TabOK Try.prog val sl0 (tabW 55 false false false)) : Q val := leaf h ht (by kernel_rfl) (by kernel_rfl) (by kernel_rfl)
theorem d55_0001 {val : Nat → Int} (h : Holds val [.le (.wrap .i64 (.add (.c (.ofNat 55)) (.a 5))) 64, .is (.a 1) (.ofNat 55), .ge (.a 5) 0, .le (.a 5) 63, .at (.eq (.a 3) (.a 4)) false, .at (.eq (.a 3) (.a 0)) false, .at (.eq (.a 4) (.a 0)) false, .ge (.a 4) 0, .is (.wrap .i64 (.sub (.a 4) (.a 3))) (.ofNat 36028797018963968)]) (ht : TabOK Try.prog val sl0 (tabW 55 false false true)) : Q val := leaf h ht (by kernel_rfl) (by kernel_rfl) (by kernel_rfl)
theorem d55_0010 {val : Nat → Int} (h : Holds val [.ge (.wrap .i64 (.add (.c (.ofNat 55)) (.a 5))) 65, .is (.a 1) (.ofNat 55), .ge (.a 5) 0, .le (.a 5) 63, .at (.eq (.a 3) (.a 4)) false, .at (.eq (.a 3) (.a 0)) false, .at (.eq (.a 4) (.a 0)) true, .ge (.a 4) 0, .is (.wrap .i64 (.sub (.a 4) (.a 3))) (.ofNat 36028797018963968)]) (ht : TabOK Try.prog val sl0 (tabW 55 false true false)) : Q val := leaf h ht (by kernel_rfl) (by kernel_rfl) (by kernel_rfl)
theorem d55_0011 {val : Nat → Int} (h : Holds val [.le (.wrap .i64 (.add (.c (.ofNat 55)) (.a 5))) 64, .is (.a 1) (.ofNat 55), .ge (.a 5) 0, .le (.a 5) 63, .at (.eq (.a 3) (.a 4)) false, .at (.eq (.a 3) (.a 0)) false, .at (.eq (.a 4) (.a 0)) true, .ge (.a 4) 0, .is (.wrap .i64 (.sub (.a 4) (.a 3))) (.ofNat 36028797018963968)]) (ht : TabOK Try.prog val sl0 (tabW 55 false true true)) : Q val := leaf h ht (by kernel_rfl) (by kernel_rfl) (by kernel_rfl)
theorem d55_0110 {val : Nat → Int} (h : Holds val [.ge (.wrap .i64 (.add (.c (.ofNat 55)) (.a 5))) 65, .is (.a 1) (.ofNat 55), .ge (.a 5) 0, .le (.a 5) 63, .at (.eq (.a 3) (.a 4)) false, .at (.eq (.a 3) (.a 0)) true, .ge (.a 4) 0, .is (.wrap .i64 (.sub (.a 4) (.a 3))) (.ofNat 36028797018963968)]) (ht : TabOK Try.prog val sl0 (tabW 55 true true false)) : Q val := leaf h ht (by kernel_rfl) (by kernel_rfl) (by kernel_rfl)
theorem d55_0111 {val : Nat → Int} (h : Holds val [.le (.wrap .i64 (.add (.c (.ofNat 55)) (.a 5))) 64, .is (.a 1) (.ofNat 55), .ge (.a 5) 0, .le (.a 5) 63, .at (.eq (.a 3) (.a 4)) false, .at (.eq (.a 3) (.a 0)) true, .ge (.a 4) 0, .is (.wrap .i64 (.sub (.a 4) (.a 3))) (.ofNat 36028797018963968)]) (ht : TabOK Try.prog val sl0 (tabW 55 true true true)) : Q val := leaf h ht (by kernel_rfl) (by kernel_rfl) (by kernel_rfl)
theorem d55_1000 {val : Nat → Int} (h : Holds val [.ge (.wrap .i64 (.add (.c (.ofNat 55)) (.a 5))) 65, .is (.a 1) (.ofNat 55), .ge (.a 5) 0, .le (.a 5) 63, .at (.eq (.a 3) (.a 4)) true, .at (.eq (.a 3) (.a 0)) false, .at (.eq (.a 4) (.a 0)) false, .ge (.a 4) 0]) (ht : TabOK Try.prog val sl0 (tabW 55 false false false)) : Q val := leaf h ht (by kernel_rfl) (by kernel_rfl) (by kernel_rfl)
theorem d55_1001 {val : Nat → Int} (h : Holds val [.le (.wrap .i64 (.add (.c (.ofNat 55)) (.a 5))) 64, .is (.a 1) (.ofNat 55), .ge (.a 5) 0, .le (.a 5) 63, .at (.eq (.a 3) (.a 4)) true, .at (.eq (.a 3) (.a 0)) false, .at (.eq (.a 4) (.a 0)) false, .ge (.a 4) 0]) (ht : TabOK Try.prog val sl0 (tabW 55 false false true)) : Q val := leaf h ht (by kernel_rfl) (by kernel_rfl) (by kernel_rfl)
theorem d55_1110 {val : Nat → Int} (h : Holds val [.ge (.wrap .i64 (.add (.c (.ofNat 55)) (.a 5))) 65, .is (.a 1) (.ofNat 55), .ge (.a 5) 0, .le (.a 5) 63, .at (.eq (.a 3) (.a 4)) true, .at (.eq (.a 3) (.a 0)) true, .ge (.a 4) 0]) (ht : TabOK Try.prog val sl0 (tabW 55 true true false)) : Q val := leaf h ht (by kernel_rfl) (by kernel_rfl) (by kernel_rfl)
theorem d55_1111 {val : Nat → Int} (h : Holds val [.le (.wrap .i64 (.add (.c (.ofNat 55)) (.a 5))) 64, .is (.a 1) (.ofNat 55), .ge (.a 5) 0, .le (.a 5) 63, .at (.eq (.a 3) (.a 4)) true, .at (.eq (.a 3) (.a 0)) true, .ge (.a 4) 0]) (ht : TabOK Try.prog val sl0 (tabW 55 true true true)) : Q val := leaf h ht (by kernel_rfl) (by kernel_rfl) (by kernel_rfl)

theorem d55 : D 55 := by
  intro val e fb wb w h ht h1 h2 h3
  cases e <;> cases fb <;> cases wb <;> cases w
  · exact d55_0000 h ht
  · exact d55_0001 h ht
  · exact d55_0010 h ht
  · exact d55_0011 h ht
  · simp at h1 h2 h3
  · simp at h1 h2 h3
  · exact d55_0110 h ht
  · exact d55_0111 h ht
  · exact d55_1000 h ht
  · exact d55_1001 h ht
  · simp at h1 h2 h3
  · simp at h1 h2 h3
  · simp at h1 h2 h3
  · simp at h1 h2 h3
  · exact d55_1110 h ht
  · exact d55_1111 h ht

theorem d56_0000 {val : Nat → Int} (h : Holds val [.ge (.wrap .i64 (.add (.c (.ofNat 56)) (.a 5))) 65, .is (.a 1) (.ofNat 56), .ge (.a 5) 0, .le (.a 5) 63, .at (.eq (.a 3) (.a 4)) false, .at (.eq (.a 3) (.a 0)) false, .at (.eq (.a 4) (.a 0)) false, .ge (.a 4) 0, .is (.wrap .i64 (.sub (.a 4) (.a 3))) (.ofNat 72057594037927936)]) (ht : TabOK Try.prog val sl0 (tabW 56 false false false)) : Q val := leaf h ht (by kernel_rfl) (by kernel_rfl) (by kernel_rfl)
theorem d56_0001 {val : Nat → Int} (h : Holds val [.le (.wrap .i64 (.add (.c (.ofNat 56)) (.a 5))) 64, .is (.a 1) (.ofNat 56), .ge (.a 5) 0, .le (.a 5) 63, .at (.eq (.a 3) (.a 4)) false, .at (.eq (.a 3) (.a 0)) false, .at (.eq (.a 4) (.a 0)) false, .ge (.a 4) 0, .is (.wrap .i64 (.sub (.a 4) (.a 3))) (.ofNat 72057594037927936)]) (ht : TabOK Try.prog val sl0 (tabW 56 false false true)) : Q val := leaf h ht (by kernel_rfl) (by kernel_rfl) (by kernel_rfl)
theorem d56_0010 {val : Nat → Int} (h : Holds val [.ge (.wrap .i64 (.add (.c (.ofNat 56)) (.a 5))) 65, .is (.a 1) (.ofNat 56), .ge (.a 5) 0, .le (.a 5) 63, .at (.eq (.a 3) (.a 4)) false, .at (.eq (.a 3) (.a 0)) false, .at (.eq (.a 4) (.a 0)) true, .ge (.a 4) 0, .is (.wrap .i64 (.sub (.a 4) (.a 3))) (.ofNat 72057594037927936)]) (ht : TabOK Try.prog val sl0 (tabW 56 false true false)) : Q val := leaf h ht (by kernel_rfl) (by kernel_rfl) (by kernel_rfl)
theorem d56_0011 {val : Nat → Int} (h : Holds val [.le (.wrap .i64 (.add (.c (.ofNat 56)) (.a 5))) 64, .is (.a 1) (.ofNat 56), .ge (.a 5) 0, .le (.a 5) 63, .at (.eq (.a 3) (.a 4)) false, .at (.eq (.a 3) (.a 0)) false, .at (.eq (.a 4) (.a 0)) true, .ge (.a 4) 0, .is (.wrap .i64 (.sub (.a 4) (.a 3))) (.ofNat 72057594037927936)]) (ht : TabOK Try.prog val sl0 (tabW 56 false true true)) : Q val := leaf h ht (by kernel_rfl) (by kernel_rfl) (by kernel_rfl)
theorem d56_0110 {val : Nat → Int} (h : Holds val [.ge (.wrap .i64 (.add (.c (.ofNat 56)) (.a 5))) 65, .is (.a 1) (.ofNat 56), .ge (.a 5) 0, .le (.a 5) 63, .at (.eq (.a 3) (.a 4)) false, .at (.eq (.a 3) (.a 0)) true, .ge (.a 4) 0, .is (.wrap .i64 (.sub (.a 4) (.a 3))) (.ofNat 72057594037927936)]) (ht : TabOK Try.prog val sl0 (tabW 56 true true false)) : Q val := leaf h ht (by kernel_rfl) (by kernel_rfl) (by kernel_rfl)
theorem d56_0111 {val : Nat → Int} (h : Holds val [.le (.wrap .i64 (.add (.c (.ofNat 56)) (.a 5))) 64, .is (.a 1) (.ofNat 56), .ge (.a 5) 0, .le (.a 5) 63, .at (.eq (.a 3) (.a 4)) false, .at (.eq (.a 3) (.a 0)) true, .ge (.a 4) 0, .is (.wrap .i64 (.sub (.a 4) (.a 3))) (.ofNat 72057594037927936)]) (ht : TabOK Try.prog val sl0 (tabW 56 true true true)) : Q val := leaf h ht (by kernel_rfl) (by kernel_rfl) (by kernel_rfl)
theorem d56_1000 {val : Nat → Int} (h : Holds val [.ge (.wrap .i64 (.add (.c (.ofNat 56)) (.a 5))) 65, .is (.a 1) (.ofNat 56), .ge (.a 5) 0, .le (.a 5) 63, .at (.eq (.a 3) (.a 4)) true, .at (.eq (.a 3) (.a 0)) false, .at (.eq (.a 4) (.a 0)) false, .ge (.a 4) 0]) (ht : TabOK Try.prog val sl0 (tabW 56 false false false)) : Q val := leaf h ht (by kernel_rfl) (by kernel_rfl) (by kernel_rfl)
theorem d56_1001 {val : Nat → Int} (h : Holds val [.le (.wrap .i64 (.add (.c (.ofNat 56)) (.a 5))) 64, .is (.a 1) (.ofNat 56), .ge (.a 5) 0, .le (.a 5) 63, .at (.eq (.a 3) (.a 4)) true, .at (.eq (.a 3) (.a 0)) false, .at (.eq (.a 4) (.a 0)) false, .ge (.a 4) 0]) (ht : TabOK Try.prog val sl0 (tabW 56 false false true)) : Q val := leaf h ht (by kernel_rfl) (by kernel_rfl) (by kernel_rfl)
theorem d56_1110 {val : Nat → Int} (h : Holds val [.ge (.wrap .i64 (.add (.c (.ofNat 56)) (.a 5))) 65, .is (.a 1) (.ofNat 56), .ge (.a 5) 0, .le (.a 5) 63, .at (.eq (.a 3) (.a 4)) true, .at (.eq (.a 3) (.a 0)) true, .ge (.a 4) 0]) (ht : TabOK Try.prog val sl0 (tabW 56 true true false)) : Q val := leaf h ht (by kernel_rfl) (by kernel_rfl) (by kernel_rfl)
theorem d56_1111 {val : Nat → Int} (h : Holds val [.le (.wrap .i64 (.add (.c (.ofNat 56)) (.a 5))) 64, .is (.a 1) (.ofNat 56), .ge (.a 5) 0, .le (.a 5) 63, .at (.eq (.a 3) (.a 4)) true, .at (.eq (.a 3) (.a 0)) true, .ge (.a 4) 0]) (ht : TabOK Try.prog val sl0 (tabW 56 true true true)) : Q val := leaf h ht (by kernel_rfl) (by kernel_rfl) (by kernel_rfl)

theorem d56 : D 56 := by
  intro val e fb wb w h ht h1 h2 h3
  cases e <;> cases fb <;> cases wb <;> cases w
  · exact d56_0000 h ht
  · exact d56_0001 h ht
  · exact d56_0010 h ht
  · exact d56_0011 h ht
  · simp at h1 h2 h3
  · simp at h1 h2 h3
  · exact d56_0110 h ht
  · exact d56_0111 h ht
  · exact d56_1000 h ht
  · exact d56_1001 h ht
  · simp at h1 h2 h3
  · simp at h1 h2 h3
  · simp at h1 h2 h3
  · simp at h1 h2 h3
  · exact d56_1110 h ht
  · exact d56_1111 h ht

theorem d57_0000 {val : Nat → Int} (h : Holds val [.ge (.wrap .i64 (.add (.c (.ofNat 57)) (.a 5))) 65, .is (.a 1) (.ofNat 57), .ge (.a 5) 0, .le (.a 5) 63, .at (.eq (.a 3) (.a 4)) false, .at (.eq (.a 3) (.a 0)) false, .at (.eq (.a 4) (.a 0)) false, .ge (.a 4) 0, .is (.wrap .i64 (.sub (.a 4) (.a 3))) (.ofNat 144115188075855872)]) (ht : TabOK Try.prog val sl0 (tabW 57 false false false)) : Q val := leaf h ht (by kernel_rfl) (by kernel_rfl) (by kernel_rfl)
theorem d57_0001 {val : Nat → Int} (h : Holds val [.le (.wrap .i64 (.add (.c (.ofNat 57)) (.a 5))) 64, .is (.a 1) (.ofNat 57), .ge (.a 5) 0, .le (.a 5) 63, .at (.eq (.a 3) (.a 4)) false, .at (.eq (.a 3) (.a 0)) false, .at (.eq (.a 4) (.a 0)) false, .ge (.a 4) 0, .is (.wrap .i64 (.sub (.a 4) (.a 3))) (.ofNat 144115188075855872)]) (ht : TabOK Try.prog val sl0 (tabW 57 false false true)) : Q val := leaf h ht (by kernel_rfl) (by kernel_rfl) (by kernel_rfl)
theorem d57_0010 {val : Nat → Int} (h : Holds val [.ge (.wrap .i64 (.add (.c (.ofNat 57)) (.a 5))) 65, .is (.a 1) (.ofNat 57), .ge (.a 5) 0, .le (.a 5) 63, .at (.eq (.a 3) (.a 4)) false, .at (.eq (.a 3) (.a 0)) false, .at (.eq (.a 4) (.a 0)) true, .ge (.a 4) 0, .is (.wrap .i64 (.sub (.a 4) (.a 3))) (.ofNat 144115188075855872)]) (ht : TabOK Try.prog val sl0 (tabW 57 false true false)) : Q val := leaf h ht (by kernel_rfl) (by kernel_rfl) (by kernel_rfl)
theorem d57_0011 {val : Nat → Int} (h : Holds val [.le (.wrap .i64 (.add (.c (.ofNat 57)) (.a 5))) 64, .is (.a 1) (.ofNat 57), .ge (.a 5) 0, .le (.a 5) 63, .at (.eq (.a 3) (.a 4)) false, .at (.eq (.a 3) (.a 0)) false, .at (.eq (.a 4) (.a 0)) true, .ge (.a 4) 0, .is (.wrap .i64 (.sub (.a 4) (.a 3))) (.ofNat 144115188075855872)]) (ht : TabOK Try.prog val sl0 (tabW 57 false true true)) : Q val := leaf h ht (by kernel_rfl) (by kernel_rfl) (by kernel_rfl)
theorem d57_0110 {val : Nat → Int} (h : Holds val [.ge (.wrap .i64 (.add (.c (.ofNat 57)) (.a 5))) 65, .is (.a 1) (.ofNat 57), .ge (.a 5) 0, .le (.a 5) 63, .at (.eq (.a 3) (.a 4)) false, .at (.eq (.a 3) (.a 0)) true, .ge (.a 4) 0, .is (.wrap .i64 (.sub (.a 4) (.a 3))) (.ofNat 144115188075855872)]) (ht : TabOK Try.prog val sl0 (tabW 57 true true false)) : Q val := leaf h ht (by kernel_rfl) (by kernel_rfl) (by kernel_rfl)
theorem d57_0111 {val : Nat → Int} (h : Holds val [.le (.wrap .i64 (.add (.c (.ofNat 57)) (.a 5))) 64, .is (.a 1) (.ofNat 57), .ge (.a 5) 0, .le (.a 5) 63, .at (.eq (.a 3) (.a 4)) false, .at (.eq (.a 3) (.a 0)) true, .ge (.a 4) 0, .is (.wrap .i64 (.sub (.a 4) (.a 3))) (.ofNat 144115188075855872)]) (ht : TabOK Try.prog val sl0 (tabW 57 true true true)) : Q val := leaf h ht (by kernel_rfl) (by kernel_rfl) (by kernel_rfl)
theorem d57_1000 {val : Nat → Int} (h : Holds val [.ge (.wrap .i64 (.add (.c (.ofNat 57)) (.a 5))) 65, .is (.a 1) (.ofNat 57), .ge (.a 5) 0, .le (.a 5) 63, .at (.eq (.a 3) (.a 4)) true, .at (.eq (.a 3) (.a 0)) false, .at (.eq (.a 4) (.a 0)) false, .ge (.a 4) 0]) (ht : TabOK Try.prog val sl0 (tabW 57 false false false)) : Q val := leaf h ht (by kernel_rfl) (by kernel_rfl) (by kernel_rfl)
theorem d57_1001 {val : Nat → Int} (h : Holds val [.le (.wrap .i64 (.add (.c (.ofNat 57)) (.a 5))) 64, .is (.a 1) (.ofNat 57), .ge (.a 5) 0, .le (.a 5) 63, .at (.eq (.a 3) (.a 4)) true, .at (.eq (.a 3) (.a 0)) false, .at (.eq (.a 4) (.a 0)) false, .ge (.a 4) 0]) (ht : TabOK Try.prog val sl0 (tabW 57 false false true)) : Q val := leaf h ht (by kernel_rfl) (by kernel_rfl) (by kernel_rfl)
theorem d57_1110 {val : Nat → Int} (h : Holds val [.ge (.wrap .i64 (.add (.c (.ofNat 57)) (.a 5))) 65, .is (.a 1) (.ofNat 57), .ge (.a 5) 0, .le (.a 5) 63, .at (.eq (.a 3) (.a 4)) true, .at (.eq (.a 3) (.a 0)) true, .ge (.a 4) 0]) (ht : TabOK Try.prog val sl0 (tabW 57 true true false)) : Q val := leaf h ht (by kernel_rfl) (by kernel_rfl) (by kernel_rfl)
theorem d57_1111 {val : Nat → Int} (h : Holds val [.le (.wrap .i64 (.add (.c (.ofNat 57)) (.a 5))) 64, .is (.a 1) (.ofNat 57), .ge (.a 5) 0, .le (.a 5) 63, .at (.eq (.a 3) (.a 4)) true, .at (.eq (.a 3) (.a 0)) true, .ge (.a 4) 0]) (ht : TabOK Try.prog val sl0 (tabW 57 true true true)) : Q val := leaf h ht (by kernel_rfl) (by kernel_rfl) (by kernel_rfl)

theorem d57 : D 57 := by
  intro val e fb wb w h ht h1 h2 h3
  cases e <;> cases fb <;> cases wb <;> cases w
  · exact d57_0000 h ht
  · exact d57_0001 h ht
  · exact d57_0010 h ht
  · exact d57_0011 h ht
  · simp at h1 h2 h3
  · simp at h1 h2 h3
  · exact d57_0110 h ht
  · exact d57_0111 h ht
  · exact d57_1000 h ht
  · exact d57_1001 h ht
  · simp at h1 h2 h3
  · simp at h1 h2 h3
  · simp at h1 h2 h3
  · simp at h1 h2 h3
  · exact d57_1110 h ht
  · exact d57_1111 h ht

theorem d58_0000 {val : Nat → Int} (h : Holds val [.ge (.wrap .i64 (.add (.c (.ofNat 58)) (.a 5))) 65, .is (.a 1) (.ofNat 58), .ge (.a 5) 0, .le (.a 5) 63, .at (.eq (.a 3) (.a 4)) false, .at (.eq (.a 3) (.a 0)) false, .at (.eq (.a 4) (.a 0)) false, .ge (.a 4) 0, .is (.wrap .i64 (.sub (.a 4) (.a 3))) (.ofNat 288230376151711744)]) (ht : TabOK Try.prog val sl0 (tabW 58 false false false)) : Q val := leaf h ht (by kernel_rfl) (by kernel_rfl) (by kernel_rfl)
theorem d58_0001 {val : Nat → Int} (h : Holds val [.le (.wrap .i64 (.add (.c (.ofNat 58)) (.a 5))) 64, .is (.a 1) (.ofNat 58), .ge (.a 5) 0, .le (.a 5) 63, .at (.eq (.a 3) (.a 4)) false, .at (.eq (.a 3) (.a 0)) false, .at (.eq (.a 4) (.a 0)) false, .ge (.a 4) 0, .is (.wrap .i64 (.sub (.a 4) (.a 3))) (.ofNat 288230376151711744)]) (ht : TabOK Try.prog val sl0 (tabW 58 false false true)) : Q val := leaf h ht (by kernel_rfl) (by kernel_rfl) (by kernel_rfl)
theorem d58_0010 {val : Nat → Int} (h : Holds val [.ge (.wrap .i64 (.add (.c (.ofNat 58)) (.a 5))) 65, .is (.a 1) (.ofNat 58), .ge (.a 5) 0, .le (.a 5) 63, .at (.eq (.a 3) (.a 4)) false, .at (.eq (.a 3) (.a 0)) false, .at (.eq (.a 4) (.a 0)) true, .ge (.a 4) 0, .is (.wrap .i64 (.sub (.a 4) (.a 3))) (.ofNat 288230376151711744)]) (ht : TabOK Try.prog val sl0 (tabW 58 false true false)) : Q val := leaf h ht (by kernel_rfl) (by kernel_rfl) (by kernel_rfl)
theorem d58_0011 {val : Nat → Int} (h : Holds val [.le (.wrap .i64 (.add (.c (.ofNat 58)) (.a 5))) 64, .is (.a 1) (.ofNat 58), .ge (.a 5) 0, .le (.a 5) 63, .at (.eq (.a 3) (.a 4)) false, .at (.eq (.a 3) (.a 0)) false, .at (.eq (.a 4) (.a 0)) true, .ge (.a 4) 0, .is (.wrap .i64 (.sub (.a 4) (.a 3))) (.ofNat 288230376151711744)]) (ht : TabOK Try.prog val sl0 (tabW 58 false true true)) : Q val := leaf h ht (by kernel_rfl) (by kernel_rfl) (by kernel_rfl)
theorem d58_0110 {val : Nat → Int} (h : Holds val [.ge (.wrap .i64 (.add (.c (.ofNat 58)) (.a 5))) 65, .is (.a 1) (.ofNat 58), .ge (.a 5) 0, .le (.a 5) 63, .at (.eq (.a 3) (.a 4)) false, .at (.eq (.a 3) (.a 0)) true, .ge (.a 4) 0, .is (.wrap .i64 (.sub (.a 4) (.a 3))) (.ofNat 288230376151711744)]) (ht : TabOK Try.prog val sl0 (tabW 58 true true false)) : Q val := leaf h ht (by kernel_rfl) (by kernel_rfl) (by kernel_rfl)
theorem d58_0111 {val : Nat → Int} (h : Holds val [.le (.wrap .i64 (.add (.c (.ofNat 58)) (.a 5))) 64, .is (.a 1) (.ofNat 58), .ge (.a 5) 0, .le (.a 5) 63, .at (.eq (.a 3) (.a 4)) false, .at (.eq (.a 3) (.a 0)) true, .ge (.a 4) 0, .is (.wrap .i64 (.sub (.a 4) (.a 3))) (.ofNat 288230376151711744)]) (ht : TabOK Try.prog val sl0 (tabW 58 true true true)) : Q val := leaf h ht (by kernel_rfl) (by kernel_rfl) (by kernel_rfl)
theorem d58_1000 {val : Nat → Int} (h : Holds val [.ge (.wrap .i64 (.add (.c (.ofNat 58)) (.a 5))) 65, .is (.a 1) (.ofNat 58), .ge (.a 5) 0, .le (.a 5) 63, .at (.eq (.a 3) (.a 4)) true, .at (.eq (.a 3) (.a 0)) false, .at (.eq (.a 4) (.a 0)) false, .ge (.a 4) 0]) (ht : TabOK Try.prog val sl0 (tabW 58 false false false)) : Q val := leaf h ht (by kernel_rfl) (by kernel_rfl) (by kernel_rfl)
theorem d58_1001 {val : Nat → Int} (h : Holds val [.le (.wrap .i64 (.add (.c (.ofNat 58)) (.a 5))) 64, .is (.a 1) (.ofNat 58), .ge (.a 5) 0, .le (.a 5) 63, .at (.eq (.a 3) (.a 4)) true, .at (.eq (.a 3) (.a 0)) false, .at (.eq (.a 4) (.a 0)) false, .ge (.a 4) 0]) (ht : TabOK Try.prog val sl0 (tabW 58 false false true)) : Q val := leaf h ht (by kernel_rfl) (by kernel_rfl) (by kernel_rfl)
theorem d58_1110 {val : Nat → Int} (h : Holds val [.ge (.wrap .i64 (.add (.c (.ofNat 58)) (.a 5))) 65, .is (.a 1) (.ofNat 58), .ge (.a 5) 0, .le (.a 5) 63, .at (.eq (.a 3) (.a 4)) true, .at (.eq (.a 3) (.a 0)) true, .ge (.a 4) 0]) (ht : TabOK Try.prog val sl0 (tabW 58 true true false)) : Q val := leaf h ht (by kernel_rfl) (by kernel_rfl) (by kernel_rfl)
theorem d58_1111 {val : Nat → Int} (h : Holds val [.le (.wrap .i64 (.add (.c (.ofNat 58)) (.a 5))) 64, .is (.a 1) (.ofNat 58), .ge (.a 5) 0, .le (.a 5) 63, .at (.eq (.a 3) (.a 4)) true, .at (.eq (.a 3) (.a 0)) true, .ge (.a 4) 0]) (ht : TabOK Try.prog val sl0 (tabW 58 true true true)) : Q val := leaf h ht (by kernel_rfl) (by kernel_rfl) (by kernel_rfl)

theorem d58 : D 58 := by
  intro val e fb wb w h ht h1 h2 h3
  cases e <;> cases fb <;> cases wb <;> cases w
  · exact d58_0000 h ht
  · exact d58_0001 h ht
  · exact d58_0010 h ht
  · exact d58_0011 h ht
  · simp at h1 h2 h3
  · simp at h1 h2 h3
  · exact d58_0110 h ht
  · exact d58_0111 h ht
  · exact d58_1000 h ht
  · exact d58_1001 h ht
  · simp at h1 h2 h3
  · simp at h1 h2 h3
  · simp at h1 h2 h3
  · simp at h1 h2 h3
  · exact d58_1110 h ht
  · exact d58_1111 h ht

theorem d59_0000 {val : Nat → Int} (h : Holds val [.ge (.wrap .i64 (.add (.c (.ofNat 59)) (.a 5))) 65, .is (.a 1) (.ofNat 59), .ge (.a 5) 0, .le (.a 5) 63, .at (.eq (.a 3) (.a 4)) false, .at (.eq (.a 3) (.a 0)) false, .at (.eq (.a 4) (.a 0)) false, .ge (.a 4) 0, .is (.wrap .i64 (.sub (.a 4) (.a 3))) (.ofNat 576460752303423488)]) (ht : TabOK Try.prog val sl0 (tabW 59 false false false)) : Q val := leaf h ht (by kernel_rfl) (by kernel_rfl) (by kernel_rfl)
theorem d59_0001 {val : Nat → Int} (h : Holds val [.le (.wrap .i64 (.add (.c (.ofNat 59)) (.a 5))) 64, .is (.a 1) (.ofNat 59), .ge (.a 5) 0, .le (.a 5) 63, .at (.eq (.a 3) (.a 4)) false, .at (.eq (.a 3) (.a 0)) false, .at (.eq (.a 4) (.a 0)) false, .ge (.a 4) 0, .is (.wrap .i64 (.sub (.a 4) (.a 3))) (.ofNat 576460752303423488)]) (ht : TabOK Try.prog val sl0 (tabW 59 false false true)) : Q val := leaf h ht (by kernel_rfl) (by kernel_rfl) (by kernel_rfl)
theorem d59_0010 {val : Nat → Int} (h : Holds val [.ge (.wrap .i64 (.add (.c (.ofNat 59)) (.a 5))) 65, .is (.a 1) (.ofNat 59), .ge (.a 5) 0, .le (.a 5) 63, .at (.eq (.a 3) (.a 4)) false, .at (.eq (.a 3) (.a 0)) false, .at (.eq (.a 4) (.a 0)) true, .ge (.a 4) 0, .is (.wrap .i64 (.sub (.a 4) (.a 3))) (.ofNat 576460752303423488)]) (ht : TabOK Try.prog val sl0 (tabW 59 false true false)) : Q val := leaf h ht (by kernel_rfl) (by kernel_rfl) (by kernel_rfl)
theorem d59_0011 {val : Nat → Int} (h : Holds val [.le (.wrap .i64 (.add (.c (.ofNat 59)) (.a 5))) 64, .is (.a 1) (.ofNat 59), .ge (.a 5) 0, .le (.a 5) 63, .at (.eq (.a 3) (.a 4)) false, .at (.eq (.a 3) (.a 0)) false, .at (.eq (.a 4) (.a 0)) true, .ge (.a 4) 0, .is (.wrap .i64 (.sub (.a 4) (.a 3))) (.ofNat 576460752303423488)]) (ht : TabOK Try.prog val sl0 (tabW 59 false true true)) : Q val := leaf h ht (by kernel_rfl) (by kernel_rfl) (by kernel_rfl)
theorem d59_0110 {val : Nat → Int} (h : Holds val [.ge (.wrap .i64 (.add (.c (.ofNat 59)) (.a 5))) 65, .is (.a 1) (.ofNat 59), .ge (.a 5) 0, .le (.a 5) 63, .at (.eq (.a 3) (.a 4)) false, .at (.eq (.a 3) (.a 0)) true, .ge (.a 4) 0, .is (.wrap .i64 (.sub (.a 4) (.a 3))) (.ofNat 576460752303423488)]) (ht : TabOK Try.prog val sl0 (tabW 59 true true false)) : Q val := leaf h ht (by kernel_rfl) (by kernel_rfl) (by kernel_rfl)
theorem d59_0111 {val : Nat → Int} (h : Holds val [.le (.wrap .i64 (.add (.c (.ofNat 59)) (.a 5))) 64, .is (.a 1) (.ofNat 59), .ge (.a 5) 0, .le (.a 5) 63, .at (.eq (.a 3) (.a 4)) false, .at (.eq (.a 3) (.a 0)) true, .ge (.a 4) 0, .is (.wrap .i64 (.sub (.a 4) (.a 3))) (.ofNat 576460752303423488)]) (ht : TabOK Try.prog val sl0 (tabW 59 true true true)) : Q val := leaf h ht (by kernel_rfl) (by kernel_rfl) (by kernel_rfl)
theorem d59_1000 {val : Nat → Int} (h : Holds val [.ge (.wrap .i64 (.add (.c (.ofNat 59)) (.a 5))) 65, .is (.a 1) (.ofNat 59), .ge (.a 5) 0, .le (.a 5) 63, .at (.eq (.a 3) (.a 4)) true, .at (.eq (.a 3) (.a 0)) false, .at (.eq (.a 4) (.a 0)) false, .ge (.a 4) 0]) (ht : TabOK Try.prog val sl0 (tabW 59 false false false)) : Q val := leaf h ht (by kernel_rfl) (by kernel_rfl) (by kernel_rfl)
theorem d59_1001 {val : Nat → Int} (h : Holds val [.le (.wrap .i64 (.add (.c (.ofNat 59)) (.a 5))) 64, .is (.a 1) (.ofNat 59), .ge (.a 5) 0, .le (.a 5) 63, .at (.eq (.a 3) (.a 4)) true, .at (.eq (.a 3) (.a 0)) false, .at (.eq (.a 4) (.a 0)) false, .ge (.a 4) 0]) (ht : TabOK Try.prog val sl0 (tabW 59 false false true)) : Q val := leaf h ht (by kernel_rfl) (by kernel_rfl) (by kernel_rfl)
theorem d59_1110 {val : Nat → Int} (h : Holds val [.ge (.wrap .i64 (.add (.c (.ofNat 59)) (.a 5))) 65, .is (.a 1) (.ofNat 59), .ge (.a 5) 0, .le (.a 5) 63, .at (.eq (.a 3) (.a 4)) true, .at (.eq (.a 3) (.a 0)) true, .ge (.a 4) 0]) (ht : TabOK Try.prog val sl0 (tabW 59 true true false)) : Q val := leaf h ht (by kernel_rfl) (by kernel_rfl) (by kernel_rfl)
theorem d59_1111 {val : Nat → Int} (h : Holds val [.le (.wrap .i64 (.add (.c (.ofNat 59)) (.a 5))) 64, .is (.a 1) (.ofNat 59), .ge (.a 5) 0, .le (.a 5) 63, .at (.eq (.a 3) (.a 4)) true, .at (.eq (.a 3) (.a 0)) true, .ge (.a 4) 0]) (ht : TabOK Try.prog val sl0 (tabW 59 true true true)) : Q val := leaf h ht (by kernel_rfl) (by kernel_rfl) (by kernel_rfl)

theorem d59 : D 59 := by
  intro val e fb wb w h ht h1 h2 h3
  cases e <;> cases fb <;> cases wb <;> cases w
  · exact d59_0000 h ht
  · exact d59_0001 h ht
  · exact d59_0010 h ht
  · exact d59_0011 h ht
  · simp at h1 h2 h3
  · simp at h1 h2 h3
  · exact d59_0110 h ht
  · exact d59_0111 h ht
  · exact d59_1000 h ht
  · exact d59_1001 h ht
  · simp at h1 h2 h3
  · simp at h1 h2 h3
  · simp at h1 h2 h3
  · simp at h1 h2 h3
  · exact d59_1110 h ht
  · exact d59_1111 h ht

theorem d60_0000 {val : Nat → Int} (h : Holds val [.ge (.wrap .i64 (.add (.c (.ofNat 60)) (.a 5))) 65, .is (.a 1) (.ofNat 60), .ge (.a 5) 0, .le (.a 5) 63, .at (.eq (.a 3) (.a 4)) false, .at (.eq (.a 3) (.a 0)) false, .at (.eq (.a 4) (.a 0)) false, .ge (.a 4) 0, .is (.wrap .i64 (.sub (.a 4) (.a 3))) (.ofNat 1152921504606846976)]) (ht : TabOK Try.prog val sl0 (tabW 60 false false false)) : Q val := leaf h ht (by kernel_rfl) (by kernel_rfl) (by kernel_rfl)
theorem d60_0001 {val : Nat → Int} (h : Holds val [.le (.wrap .i64 (.add (.c (.ofNat 60)) (.a 5))) 64, .is (.a 1) (.ofNat 60), .ge (.a 5) 0, .le (.a 5) 63, .at (.eq (.a 3) (.a 4)) false, .at (.eq (.a 3) (.a 0)) false, .at (.eq (.a 4) (.a 0)) false, .ge (.a 4) 0, .is (.wrap .i64 (.sub (.a 4) (.a 3))) (.ofNat 1152921504606846976)]) (ht : TabOK Try.prog val sl0 (tabW 60 false false true)) : Q val := leaf h ht (by kernel_rfl) (by kernel_rfl) (by kernel_rfl)
theorem d60_0010 {val : Nat → Int} (h : Holds val [.ge (.wrap .i64 (.add (.c (.ofNat 60)) (.a 5))) 65, .is (.a 1) (.ofNat 60), .ge (.a 5) 0, .le (.a 5) 63, .at (.eq (.a 3) (.a 4)) false, .at (.eq (.a 3) (.a 0)) false, .at (.eq (.a 4) (.a 0)) true, .ge (.a 4) 0, .is (.wrap .i64 (.sub (.a 4) (.a 3))) (.ofNat 1152921504606846976)]) (ht : TabOK Try.prog val sl0 (tabW 60 false true false)) : Q val := leaf h ht (by kernel_rfl) (by kernel_rfl) (by kernel_rfl)
theorem d60_0011 {val : Nat → Int} (h : Holds val [.le (.wrap .i64 (.add (.c (.ofNat 60)) (.a 5))) 64, .is (.a 1) (.ofNat 60), .ge (.a 5) 0, .le (.a 5) 63, .at (.eq (.a 3) (.a 4)) false, .at (.eq (.a 3) (.a 0)) false, .at (.eq (.a 4) (.a 0)) true, .ge (.a 4) 0, .is (.wrap .i64 (.sub (.a 4) (.a 3))) (.ofNat 1152921504606846976)]) (ht : TabOK Try.prog val sl0 (tabW 60 false true true)) : Q val := leaf h ht (by kernel_rfl) (by kernel_rfl) (by kernel_rfl)
theorem d60_0110 {val : Nat → Int} (h : Holds val [.ge (.wrap .i64 (.add (.c (.ofNat 60)) (.a 5))) 65, .is (.a 1) (.ofNat 60), .ge (.a 5) 0, .le (.a 5) 63, .at (.eq (.a 3) (.a 4)) false, .at (.eq (.a 3) (.a 0)) true, .ge (.a 4) 0, .is (.wrap .i64 (.sub (.a 4) (.a 3))) (.ofNat 1152921504606846976)]) (ht : TabOK Try.prog val sl0 (tabW 60 true true false)) : Q val := leaf h ht (by kernel_rfl) (by kernel_rfl) (by kernel_rfl)
theorem d60_0111 {val : Nat → Int} (h : Holds val [.le (.wrap .i64 (.add (.c (.ofNat 60)) (.a 5))) 64, .is (.a 1) (.ofNat 60), .ge (.a 5) 0, .le (.a 5) 63, .at (.eq (.a 3) (.a 4)) false, .at (.eq (.a 3) (.a 0)) true, .ge (.a 4) 0, .is (.wrap .i64 (.sub (.a 4) (.a 3))) (.ofNat 1152921504606846976)]) (ht : TabOK Try.prog val sl0 (tabW 60 true true true)) : Q val := leaf h ht (by kernel_rfl) (by kernel_rfl) (by kernel_rfl)
theorem d60_1000 {val : Nat → Int} (h : Holds val [.ge (.wrap .i64 (.add (.c (.ofNat 60)) (.a 5))) 65, .is (.a 1) (.ofNat 60), .ge (.a 5) 0, .le (.a 5) 63, .at (.eq (.a 3) (.a 4)) true, .at (.eq (.a 3) (.a 0)) false, .at (.eq (.a 4) (.a 0)) false, .ge (.a 4) 0]) (ht : TabOK Try.prog val sl0 (tabW 60 false false false)) : Q val := leaf h ht (by kernel_rfl) (by kernel_rfl) (by kernel_rfl)
theorem d60_1001 {val : Nat → Int} (h : Holds val [.le (.wrap .i64 (.add (.c (.ofNat 60)) (.a 5))) 64, .is (.a 1) (.ofNat 60), .ge (.a 5) 0, .le (.a 5) 63, .at (.eq (.a 3) (.a 4)) true, .at (.eq (.a 3) (.a 0)) false, .at (.eq (.a 4) (.a 0)) false, .ge (.a 4) 0]) (ht : TabOK Try.prog val sl0 (tabW 60 false false true)) : Q val := leaf h ht (by kernel_rfl) (by kernel_rfl) (by kernel_rfl)
theorem d60_1110 {val : Nat → Int} (h : Holds val [.ge (.wrap .i64 (.add (.c (.ofNat 60)) (.a 5))) 65, .is (.a 1) (.ofNat 60), .ge (.a 5) 0, .le (.a 5) 63, .at (.eq (.a 3) (.a 4)) true, .at (.eq (.a 3) (.a 0)) true, .ge (.a 4) 0]) (ht : TabOK Try.prog val sl0 (tabW 60 true true false)) : Q val := leaf h ht (by kernel_rfl) (by kernel_rfl) (by kernel_rfl)
theorem d60_1111 {val : Nat → Int} (h : Holds val [.le (.wrap .i64 (.add (.c (.ofNat 60)) (.a 5))) 64, .is (.a 1) (.ofNat 60), .ge (.a 5) 0, .le (.a 5) 63, .at (.eq (.a 3) (.a 4)) true, .at (.eq (.a 3) (.a 0)) true, .ge (.a 4) 0]) (ht : TabOK Try.prog val sl0 (tabW 60 true true true)) : Q val := leaf h ht (by kernel_rfl) (by kernel_rfl) (by kernel_rfl)

theorem d60 : D 60 := by
  intro val e fb wb w h ht h1 h2 h3
  cases e <;> cases fb <;> cases wb <;> cases w
  · exact d60_0000 h ht
  · exact d60_0001 h ht
  · exact d60_0010 h ht
  · exact d60_0011 h ht
  · simp at h1 h2 h3
  · simp at h1 h2 h3
  · exact d60_0110 h ht
  · exact d60_0111 h ht
  · exact d60_1000 h ht
  · exact d60_1001 h ht
  · simp at h1 h2 h3
  · simp at h1 h2 h3
  · simp at h1 h2 h3
  · simp at h1 h2 h3
  · exact d60_1110 h ht
  · exact d60_1111 h ht

theorem d61_0000 {val : Nat → Int} (h : Holds val [.ge (.wrap .i64 (.add (.c (.ofNat 61)) (.a 5))) 65, .is (.a 1) (.ofNat 61), .ge (.a 5) 0, .le (.a 5) 63, .at (.eq (.a 3) (.a 4)) false, .at (.eq (.a 3) (.a 0)) false, .at (.eq (.a 4) (.a 0)) false, .ge (.a 4) 0, .is (.wrap .i64 (.sub (.a 4) (.a 3))) (.ofNat 2305843009213693952)]) (ht : TabOK Try.prog val sl0 (tabW 61 false false false)) : Q val := leaf h ht (by kernel_rfl) (by kernel_rfl) (by kernel_rfl)
theorem d61_0001 {val : Nat → Int} (h : Holds val [.le (.wrap .i64 (.add (.c (.ofNat 61)) (.a 5))) 64, .is (.a 1) (.ofNat 61), .ge (.a 5) 0, .le (.a 5) 63, .at (.eq (.a 3) (.a 4)) false, .at (.eq (.a 3) (.a 0)) false, .at (.eq (.a 4) (.a 0)) false, .ge (.a 4) 0, .is (.wrap .i64 (.sub (.a 4) (.a 3))) (.ofNat 2305843009213693952)]) (ht : TabOK Try.prog val sl0 (tabW 61 false false true)) : Q val := leaf h ht (by kernel_rfl) (by kernel_rfl) (by kernel_rfl)
theorem d61_0010 {val : Nat → Int} (h : Holds val [.ge (.wrap .i64 (.add (.c (.ofNat 61)) (.a 5))) 65, .is (.a 1) (.ofNat 61), .ge (.a 5) 0, .le (.a 5) 63, .at (.eq (.a 3) (.a 4)) false, .at (.eq (.a 3) (.a 0)) false, .at (.eq (.a 4) (.a 0)) true, .ge (.a 4) 0, .is (.wrap .i64 (.sub (.a 4) (.a 3))) (.ofNat 2305843009213693952)]) (ht : TabOK Try.prog val sl0 (tabW 61 false true false)) : Q val := leaf h ht (by kernel_rfl) (by kernel_rfl) (by kernel_rfl)
theorem d61_0011 {val : Nat → Int} (h : Holds val [.le (.wrap .i64 (.add (.c (.ofNat 61)) (.a 5))) 64, .is (.a 1) (.ofNat 61), .ge (.a 5) 0, .le (.a 5) 63, .at (.eq (.a 3) (.a 4)) false, .at (.eq (.a 3) (.a 0)) false, .at (.eq (.a 4) (.a 0)) true, .ge (.a 4) 0, .is (.wrap .i64 (.sub (.a 4) (.a 3))) (.ofNat 2305843009213693952)]) (ht : TabOK Try.prog val sl0 (tabW 61 false true true)) : Q val := leaf h ht (by kernel_rfl) (by kernel_rfl) (by kernel_rfl)
theorem d61_0110 {val : Nat → Int} (h : Holds val [.ge (.wrap .i64 (.add (.c (.ofNat 61)) (.a 5))) 65, .is (.a 1) (.ofNat 61), .ge (.a 5) 0, .le (.a 5) 63, .at (.eq (.a 3) (.a 4)) false, .at (.eq (.a 3) (.a 0)) true, .ge (.a 4) 0, .is (.wrap .i64 (.sub (.a 4) (.a 3))) (.ofNat 2305843009213693952)]) (ht : TabOK Try.prog val sl0 (tabW 61 true true false)) : Q val := leaf h ht (by kernel_rfl) (by kernel_rfl) (by kernel_rfl)
theorem d61_0111 {val : Nat → Int} (h : Holds val [.le (.wrap .i64 (.add (.c (.ofNat 61)) (.a 5))) 64, .is (.a 1) (.ofNat 61), .ge (.a 5) 0, .le (.a 5) 63, .at (.eq (.a 3) (.a 4)) false, .at (.eq (.a 3) (.a 0)) true, .ge (.a 4) 0, .is (.wrap .i64 (.sub (.a 4) (.a 3))) (.ofNat 2305843009213693952)]) (ht : TabOK Try.prog val sl0 (tabW 61 true true true)) : Q val := leaf h ht (by kernel_rfl) (by kernel_rfl) (by kernel_rfl)
theorem d61_1000 {val : Nat → Int} (h : Holds val [.ge (.wrap .i64 (.add (.c (.ofNat 61)) (.a 5))) 65, .is (.a 1) (.ofNat 61), .ge (.a 5) 0, .le (.a 5) 63, .at (.eq (.a 3) (.a 4)) true, .at (.eq (.a 3) (.a 0)) false, .at (.eq (.a 4) (.a 0)) false, .ge (.a 4) 0]) (ht : TabOK Try.prog val sl0 (tabW 61 false false false)) : Q val := leaf h ht (by kernel_rfl) (by kernel_rfl) (by kernel_rfl)
theorem d61_1001 {val : Nat → Int} (h : Holds val [.le (.wrap .i64 (.add (.c (.ofNat 61)) (.a 5))) 64, .is (.a 1) (.ofNat 61), .ge (.a 5) 0, .le (.a 5) 63, .at (.eq (.a 3) (.a 4)) true, .at (.eq (.a 3) (.a 0)) false, .at (.eq (.a 4) (.a 0)) false, .ge (.a 4) 0]) (ht : TabOK Try.prog val sl0 (tabW 61 false false true)) : Q val := leaf h ht (by kernel_rfl) (by kernel_rfl) (by kernel_rfl)
theorem d61_1110 {val : Nat → Int} (h : Holds val [.ge (.wrap .i64 (.add (.c (.ofNat 61)) (.a 5))) 65, .is (.a 1) (.ofNat 61), .ge (.a 5) 0, .le (.a 5) 63, .at (.eq (.a 3) (.a 4)) true, .at (.eq (.a 3) (.a 0)) true, .ge (.a 4) 0]) (ht : TabOK Try.prog val sl0 (tabW 61 true true false)) : Q val := leaf h ht (by kernel_rfl) (by kernel_rfl) (by kernel_rfl)
theorem d61_1111 {val : Nat → Int} (h : Holds val [.le (.wrap .i64 (.add (.c (.ofNat 61)) (.a 5))) 64, .is (.a 1) (.ofNat 61), .ge (.a 5) 0, .le (.a 5) 63, .at (.eq (.a 3) (.a 4)) true, .at (.eq (.a 3) (.a 0)) true, .ge (.a 4) 0]) (ht : TabOK Try.prog val sl0 (tabW 61 true true true)) : Q val := leaf h ht (by kernel_rfl) (by kernel_rfl) (by kernel_rfl)

theorem d61 : D 61 := by
  intro val e fb wb w h ht h1 h2 h3
  cases e <;> cases fb <;> cases wb <;> cases w
  · exact d61_0000 h ht
  · exact d61_0001 h ht
  · exact d61_0010 h ht
  · exact d61_0011 h ht
  · simp at h1 h2 h3
  · simp at h1 h2 h3
  · exact d61_0110 h ht
  · exact d61_0111 h ht
  · exact d61_1000 h ht
  · exact d61_1001 h ht
  · simp at h1 h2 h3
  · simp at h1 h2 h3
  · simp at h1 h2 h3
  · simp at h1 h2 h3
  · exact d61_1110 h ht
  · exact d61_1111 h ht

theorem d62_0000 {val : Nat → Int} (h : Holds val [.ge (.wrap .i64 (.add (.c (.ofNat 62)) (.a 5))) 65, .is (.a 1) (.ofNat 62), .ge (.a 5) 0, .le (.a 5) 63, .at (.eq (.a 3) (.a 4)) false, .at (.eq (.a 3) (.a 0)) false, .at (.eq (.a 4) (.a 0)) false, .ge (.a 4) 0, .is (.wrap .i64 (.sub (.a 4) (.a 3))) (.ofNat 4611686018427387904)]) (ht : TabOK Try.prog val sl0 (tabW 62 false false false)) : Q val := leaf h ht (by kernel_rfl) (by kernel_rfl) (by kernel_rfl)
theorem d62_0001 {val : Nat → Int} (h : Holds val [.le (.wrap .i64 (.add (.c (.ofNat 62)) (.a 5))) 64, .is (.a 1) (.ofNat 62), .ge (.a 5) 0, .le (.a 5) 63, .at (.eq (.a 3) (.a 4)) false, .at (.eq (.a 3) (.a 0)) false, .at (.eq (.a 4) (.a 0)) false, .ge (.a 4) 0, .is (.wrap .i64 (.sub (.a 4) (.a 3))) (.ofNat 4611686018427387904)]) (ht : TabOK Try.prog val sl0 (tabW 62 false false true)) : Q val := leaf h ht (by kernel_rfl) (by kernel_rfl) (by kernel_rfl)
theorem d62_0010 {val : Nat → Int} (h : Holds val [.ge (.wrap .i64 (.add (.c (.ofNat 62)) (.a 5))) 65, .is (.a 1) (.ofNat 62), .ge (.a 5) 0, .le (.a 5) 63, .at (.eq (.a 3) (.a 4)) false, .at (.eq (.a 3) (.a 0)) false, .at (.eq (.a 4) (.a 0)) true, .ge (.a 4) 0, .is (.wrap .i64 (.sub (.a 4) (.a 3))) (.ofNat 4611686018427387904)]) (ht : TabOK Try.prog val sl0 (tabW 62 false true false)) : Q val := leaf h ht (by kernel_rfl) (by kernel_rfl) (by kernel_rfl)
theorem d62_0011 {val : Nat → Int} (h : Holds val [.le (.wrap .i64 (.add (.c (.ofNat 62)) (.a 5))) 64, .is (.a 1) (.ofNat 62), .ge (.a 5) 0, .le (.a 5) 63, .at (.eq (.a 3) (.a 4)) false, .at (.eq (.a 3) (.a 0)) false, .at (.eq (.a 4) (.a 0)) true, .ge (.a 4) 0, .is (.wrap .i64 (.sub (.a 4) (.a 3))) (.ofNat 4611686018427387904)]) (ht : TabOK Try.prog val sl0 (tabW 62 false true true)) : Q val := leaf h ht (by kernel_rfl) (by kernel_rfl) (by kernel_rfl)
theorem d62_0110 {val : Nat → Int} (h : Holds val [.ge (.wrap .i64 (.add (.c (.ofNat 62)) (.a 5))) 65, .is (.a 1) (.ofNat 62), .ge (.a 5) 0, .le (.a 5) 63, .at (.eq (.a 3) (.a 4)) false, .at (.eq (.a 3) (.a 0)) true, .ge (.a 4) 0, .is (.wrap .i64 (.sub (.a 4) (.a 3))) (.ofNat 4611686018427387904)]) (ht : TabOK Try.prog val sl0 (tabW 62 true true false)) : Q val := leaf h ht (by kernel_rfl) (by kernel_rfl) (by kernel_rfl)
theorem d62_0111 {val : Nat → Int} (h : Holds val [.le (.wrap .i64 (.add (.c (.ofNat 62)) (.a 5))) 64, .is (.a 1) (.ofNat 62), .ge (.a 5) 0, .le (.a 5) 63, .at (.eq (.a 3) (.a 4)) false, .at (.eq (.a 3) (.a 0)) true, .ge (.a 4) 0, .is (.wrap .i64 (.sub (.a 4) (.a 3))) (.ofNat 4611686018427387904)]) (ht : TabOK Try.prog val sl0 (tabW 62 true true true)) : Q val := leaf h ht (by kernel_rfl) (by kernel_rfl) (by kernel_rfl)
theorem d62_1000 {val : Nat → Int} (h : Holds val [.ge (.wrap .i64 (.add (.c (.ofNat 62)) (.a 5))) 65, .is (.a 1) (.ofNat 62), .ge (.a 5) 0, .le (.a 5) 63, .at (.eq (.a 3) (.a 4)) true, .at (.eq (.a 3) (.a 0)) false, .at (.eq (.a 4) (.a 0)) false, .ge (.a 4) 0]) (ht : TabOK Try.prog val sl0 (tabW 62 false false false)) : Q val := leaf h ht (by kernel_rfl) (by kernel_rfl) (by kernel_rfl)
theorem d62_1001 {val : Nat → Int} (h : Holds val [.le (.wrap .i64 (.add (.c (.ofNat 62)) (.a 5))) 64, .is (.a 1) (.ofNat 62), .ge (.a 5) 0, .le (.a 5) 63, .at (.eq (.a 3) (.a 4)) true, .at (.eq (.a 3) (.a 0)) false, .at (.eq (.a 4) (.a 0)) false, .ge (.a 4) 0]) (ht : TabOK Try.prog val sl0 (tabW 62 false false true)) : Q val := leaf h ht (by kernel_rfl) (by kernel_rfl) (by kernel_rfl)
theorem d62_1110 {val : Nat → Int} (h : Holds val [.ge (.wrap .i64 (.add (.c (.ofNat 62)) (.a 5))) 65, .is (.a 1) (.ofNat 62), .ge (.a 5) 0, .le (.a 5) 63, .at (.eq (.a 3) (.a 4)) true, .at (.eq (.a 3) (.a 0)) true, .ge (.a 4) 0]) (ht : TabOK Try.prog val sl0 (tabW 62 true true false)) : Q val := leaf h ht (by kernel_rfl) (by kernel_rfl) (by kernel_rfl)
theorem d62_1111 {val : Nat → Int} (h : Holds val [.le (.wrap .i64 (.add (.c (.ofNat 62)) (.a 5))) 64, .is (.a 1) (.ofNat 62), .ge (.a 5) 0, .le (.a 5) 63, .at (.eq (.a 3) (.a 4)) true, .at (.eq (.a 3) (.a 0)) true, .ge (.a 4) 0]) (ht : TabOK Try.prog val sl0 (tabW 62 true true true)) : Q val := leaf h ht (by kernel_rfl) (by kernel_rfl) (by kernel_rfl)

theorem d62 : D 62 := by
  intro val e fb wb w h ht h1 h2 h3
  cases e <;> cases fb <;> cases wb <;> cases w
  · exact d62_0000 h ht
  · exact d62_0001 h ht
  · exact d62_0010 h ht
  · exact d62_0011 h ht
  · simp at h1 h2 h3
  · simp at h1 h2 h3
  · exact d62_0110 h ht
  · exact d62_0111 h ht
  · exact d62_1000 h ht
  · exact d62_1001 h ht
  · simp at h1 h2 h3
  · simp at h1 h2 h3
  · simp at h1 h2 h3
  · simp at h1 h2 h3
  · exact d62_1110 h ht
  · exact d62_1111 h ht

theorem d63_0000 {val : Nat → Int} (h : Holds val [.ge (.wrap .i64 (.add (.c (.ofNat 63)) (.a 5))) 65, .is (.a 1) (.ofNat 63), .ge (.a 5) 0, .le (.a 5) 63, .at (.eq (.a 3) (.a 4)) false, .at (.eq (.a 3) (.a 0)) false, .at (.eq (.a 4) (.a 0)) false, .ge (.a 4) 0]) (ht : TabOK Try.prog val sl0 (tabW 63 false false false)) : Q val := leaf h ht (by kernel_rfl) (by kernel_rfl) (by kernel_rfl)
theorem d63_0001 {val : Nat → Int} (h : Holds val [.le (.wrap .i64 (.add (.c (.ofNat 63)) (.a 5))) 64, .is (.a 1) (.ofNat 63), .ge (.a 5) 0, .le (.a 5) 63, .at (.eq (.a 3) (.a 4)) false, .at (.eq (.a 3) (.a 0)) false, .at (.eq (.a 4) (.a 0)) false, .ge (.a 4) 0]) (ht : TabOK Try.prog val sl0 (tabW 63 false false true)) : Q val := leaf h ht (by kernel_rfl) (by kernel_rfl) (by kernel_rfl)
theorem d63_0010 {val : Nat → Int} (h : Holds val [.ge (.wrap .i64 (.add (.c (.ofNat 63)) (.a 5))) 65, .is (.a 1) (.ofNat 63), .ge (.a 5) 0, .le (.a 5) 63, .at (.eq (.a 3) (.a 4)) false, .at (.eq (.a 3) (.a 0)) false, .at (.eq (.a 4) (.a 0)) true, .ge (.a 4) 0]) (ht : TabOK Try.prog val sl0 (tabW 63 false true false)) : Q val := leaf h ht (by kernel_rfl) (by kernel_rfl) (by kernel_rfl)
theorem d63_0011 {val : Nat → Int} (h : Holds val [.le (.wrap .i64 (.add (.c (.ofNat 63)) (.a 5))) 64, .is (.a 1) (.ofNat 63), .ge (.a 5) 0, .le (.a 5) 63, .at (.eq (.a 3) (.a 4)) false, .at (.eq (.a 3) (.a 0)) false, .at (.eq (.a 4) (.a 0)) true, .ge (.a 4) 0]) (ht : TabOK Try.prog val sl0 (tabW 63 false true true)) : Q val := leaf h ht (by kernel_rfl) (by kernel_rfl) (by kernel_rfl)
theorem d63_0110 {val : Nat → Int} (h : Holds val [.ge (.wrap .i64 (.add (.c (.ofNat 63)) (.a 5))) 65, .is (.a 1) (.ofNat 63), .ge (.a 5) 0, .le (.a 5) 63, .at (.eq (.a 3) (.a 4)) false, .at (.eq (.a 3) (.a 0)) true, .ge (.a 4) 0]) (ht : TabOK Try.prog val sl0 (tabW 63 true true false)) : Q val := leaf h ht (by kernel_rfl) (by kernel_rfl) (by kernel_rfl)
theorem d63_0111 {val : Nat → Int} (h : Holds val [.le (.wrap .i64 (.add (.c (.ofNat 63)) (.a 5))) 64, .is (.a 1) (.ofNat 63), .ge (.a 5) 0, .le (.a 5) 63, .at (.eq (.a 3) (.a 4)) false, .at (.eq (.a 3) (.a 0)) true, .ge (.a 4) 0]) (ht : TabOK Try.prog val sl0 (tabW 63 true true true)) : Q val := leaf h ht (by kernel_rfl) (by kernel_rfl) (by kernel_rfl)
theorem d63_1000 {val : Nat → Int} (h : Holds val [.ge (.wrap .i64 (.add (.c (.ofNat 63)) (.a 5))) 65, .is (.a 1) (.ofNat 63), .ge (.a 5) 0, .le (.a 5) 63, .at (.eq (.a 3) (.a 4)) true, .at (.eq (.a 3) (.a 0)) false, .at (.eq (.a 4) (.a 0)) false, .ge (.a 4) 0]) (ht : TabOK Try.prog val sl0 (tabW 63 false false false)) : Q val := leaf h ht (by kernel_rfl) (by kernel_rfl) (by kernel_rfl)
theorem d63_1001 {val : Nat → Int} (h : Holds val [.le (.wrap .i64 (.add (.c (.ofNat 63)) (.a 5))) 64, .is (.a 1) (.ofNat 63), .ge (.a 5) 0, .le (.a 5) 63, .at (.eq (.a 3) (.a 4)) true, .at (.eq (.a 3) (.a 0)) false, .at (.eq (.a 4) (.a 0)) false, .ge (.a 4) 0]) (ht : TabOK Try.prog val sl0 (tabW 63 false false true)) : Q val := leaf h ht (by kernel_rfl) (by kernel_rfl) (by kernel_rfl)
theorem d63_1110 {val : Nat → Int} (h : Holds val [.ge (.wrap .i64 (.add (.c (.ofNat 63)) (.a 5))) 65, .is (.a 1) (.ofNat 63), .ge (.a 5) 0, .le (.a 5) 63, .at (.eq (.a 3) (.a 4)) true, .at (.eq (.a 3) (.a 0)) true, .ge (.a 4) 0]) (ht : TabOK Try.prog val sl0 (tabW 63 true true false)) : Q val := leaf h ht (by kernel_rfl) (by kernel_rfl) (by kernel_rfl)
theorem d63_1111 {val : Nat → Int} (h : Holds val [.le (.wrap .i64 (.add (.c (.ofNat 63)) (.a 5))) 64, .is (.a 1) (.ofNat 63), .ge (.a 5) 0, .le (.a 5) 63, .at (.eq (.a 3) (.a 4)) true, .at (.eq (.a 3) (.a 0)) true, .ge (.a 4) 0]) (ht : TabOK Try.prog val sl0 (tabW 63 true true true)) : Q val := leaf h ht (by kernel_rfl) (by kernel_rfl) (by kernel_rfl)

theorem d63 : D 63 := by
  intro val e fb wb w h ht h1 h2 h3
  cases e <;> cases fb <;> cases wb <;> cases w
  · exact d63_0000 h ht
  · exact d63_0001 h ht
  · exact d63_0010 h ht
  · exact d63_0011 h ht
  · simp at h1 h2 h3
  · simp at h1 h2 h3
  · exact d63_0110 h ht
  · exact d63_0111 h ht
  · exact d63_1000 h ht
  · exact d63_1001 h ht
  · simp at h1 h2 h3
  · simp at h1 h2 h3
  · simp at h1 h2 h3
  · simp at h1 h2 h3
  · exact d63_1110 h ht
  · exact d63_1111 h ht

theorem d64_1000 {val : Nat → Int} (h : Holds val [.ge (.wrap .i64 (.add (.c (.ofNat 64)) (.a 5))) 65, .is (.a 1) (.ofNat 64), .ge (.a 5) 0, .le (.a 5) 63, .at (.eq (.a 3) (.a 4)) true, .at (.eq (.a 3) (.a 0)) false, .at (.eq (.a 4) (.a 0)) false]) (ht : TabOK Try.prog val sl0 (tabW 64 false false false)) : Q val := leaf h ht (by kernel_rfl) (by kernel_rfl) (by kernel_rfl)
theorem d64_1001 {val : Nat → Int} (h : Holds val [.le (.wrap .i64 (.add (.c (.ofNat 64)) (.a 5))) 64, .is (.a 1) (.ofNat 64), .ge (.a 5) 0, .le (.a 5) 63, .at (.eq (.a 3) (.a 4)) true, .at (.eq (.a 3) (.a 0)) false, .at (.eq (.a 4) (.a 0)) false]) (ht : TabOK Try.prog val sl0 (tabW 64 false false true)) : Q val := leaf h ht (by kernel_rfl) (by kernel_rfl) (by kernel_rfl)
theorem d64_1110 {val : Nat → Int} (h : Holds val [.ge (.wrap .i64 (.add (.c (.ofNat 64)) (.a 5))) 65, .is (.a 1) (.ofNat 64), .ge (.a 5) 0, .le (.a 5) 63, .at (.eq (.a 3) (.a 4)) true, .at (.eq (.a 3) (.a 0)) true]) (ht : TabOK Try.prog val sl0 (tabW 64 true true false)) : Q val := leaf h ht (by kernel_rfl) (by kernel_rfl) (by kernel_rfl)
theorem d64_1111 {val : Nat → Int} (h : Holds val [.le (.wrap .i64 (.add (.c (.ofNat 64)) (.a 5))) 64, .is (.a 1) (.ofNat 64), .ge (.a 5) 0, .le (.a 5) 63, .at (.eq (.a 3) (.a 4)) true, .at (.eq (.a 3) (.a 0)) true]) (ht : TabOK Try.prog val sl0 (tabW 64 true true true)) : Q val := leaf h ht (by kernel_rfl) (by kernel_rfl) (by kernel_rfl)

theorem d64 : D 64 := by
  intro val e fb wb w h ht h1 h2 h3
  cases e <;> cases fb <;> cases wb <;> cases w
  · simp at h1 h2 h3
  · simp at h1 h2 h3
  · simp at h1 h2 h3
  · simp at h1 h2 h3
  · simp at h1 h2 h3
  · simp at h1 h2 h3
  · simp at h1 h2 h3
  · simp at h1 h2 h3
  · exact d64_1000 h ht
  · exact d64_1001 h ht
  · simp at h1 h2 h3
  · simp at h1 h2 h3
  · simp at h1 h2 h3
  · simp at h1 h2 h3
  · exact d64_1110 h ht
  · exact d64_1111 h ht

end Go.Proofs.Ytclgmeoofmidfaa.FitsL
