/-
  The law 'FieldFits', by widths: each way, run.
-/
import Derived.Test.YtclgmeoofmidfaaFitsH
namespace Go.Proofs.Ytclgmeoofmidfaa.FitsL
open Go.Sim Go.Proofs.Ytclgmeoofmidfaa.Fld
set_option maxRecDepth 100000

theorem d1_0000 {val : Nat → Int} (h : Holds val [.ge (.wrap .i64 (.add (.c (.ofNat 1)) (.a 5))) 65, .is (.a 1) (.ofNat 1), .ge (.a 5) 0, .le (.a 5) 63, .at (.eq (.a 3) (.a 4)) false, .at (.eq (.a 3) (.a 0)) false, .at (.eq (.a 4) (.a 0)) false, .ge (.a 4) 0, .is (.wrap .i64 (.sub (.a 4) (.a 3))) (.ofNat 2)]) (ht : TabOK Try.prog val sl0 (tabW 1 false false false)) : Q val := leaf h ht (by kernel_rfl) (by kernel_rfl) (by kernel_rfl)
theorem d1_0001 {val : Nat → Int} (h : Holds val [.le (.wrap .i64 (.add (.c (.ofNat 1)) (.a 5))) 64, .is (.a 1) (.ofNat 1), .ge (.a 5) 0, .le (.a 5) 63, .at (.eq (.a 3) (.a 4)) false, .at (.eq (.a 3) (.a 0)) false, .at (.eq (.a 4) (.a 0)) false, .ge (.a 4) 0, .is (.wrap .i64 (.sub (.a 4) (.a 3))) (.ofNat 2)]) (ht : TabOK Try.prog val sl0 (tabW 1 false false true)) : Q val := leaf h ht (by kernel_rfl) (by kernel_rfl) (by kernel_rfl)
theorem d1_0010 {val : Nat → Int} (h : Holds val [.ge (.wrap .i64 (.add (.c (.ofNat 1)) (.a 5))) 65, .is (.a 1) (.ofNat 1), .ge (.a 5) 0, .le (.a 5) 63, .at (.eq (.a 3) (.a 4)) false, .at (.eq (.a 3) (.a 0)) false, .at (.eq (.a 4) (.a 0)) true, .ge (.a 4) 0, .is (.wrap .i64 (.sub (.a 4) (.a 3))) (.ofNat 2)]) (ht : TabOK Try.prog val sl0 (tabW 1 false true false)) : Q val := leaf h ht (by kernel_rfl) (by kernel_rfl) (by kernel_rfl)
theorem d1_0011 {val : Nat → Int} (h : Holds val [.le (.wrap .i64 (.add (.c (.ofNat 1)) (.a 5))) 64, .is (.a 1) (.ofNat 1), .ge (.a 5) 0, .le (.a 5) 63, .at (.eq (.a 3) (.a 4)) false, .at (.eq (.a 3) (.a 0)) false, .at (.eq (.a 4) (.a 0)) true, .ge (.a 4) 0, .is (.wrap .i64 (.sub (.a 4) (.a 3))) (.ofNat 2)]) (ht : TabOK Try.prog val sl0 (tabW 1 false true true)) : Q val := leaf h ht (by kernel_rfl) (by kernel_rfl) (by kernel_rfl)
theorem d1_0110 {val : Nat → Int} (h : Holds val [.ge (.wrap .i64 (.add (.c (.ofNat 1)) (.a 5))) 65, .is (.a 1) (.ofNat 1), .ge (.a 5) 0, .le (.a 5) 63, .at (.eq (.a 3) (.a 4)) false, .at (.eq (.a 3) (.a 0)) true, .ge (.a 4) 0, .is (.wrap .i64 (.sub (.a 4) (.a 3))) (.ofNat 2)]) (ht : TabOK Try.prog val sl0 (tabW 1 true true false)) : Q val := leaf h ht (by kernel_rfl) (by kernel_rfl) (by kernel_rfl)
theorem d1_0111 {val : Nat → Int} (h : Holds val [.le (.wrap .i64 (.add (.c (.ofNat 1)) (.a 5))) 64, .is (.a 1) (.ofNat 1), .ge (.a 5) 0, .le (.a 5) 63, .at (.eq (.a 3) (.a 4)) false, .at (.eq (.a 3) (.a 0)) true, .ge (.a 4) 0, .is (.wrap .i64 (.sub (.a 4) (.a 3))) (.ofNat 2)]) (ht : TabOK Try.prog val sl0 (tabW 1 true true true)) : Q val := leaf h ht (by kernel_rfl) (by kernel_rfl) (by kernel_rfl)
theorem d1_1000 {val : Nat → Int} (h : Holds val [.ge (.wrap .i64 (.add (.c (.ofNat 1)) (.a 5))) 65, .is (.a 1) (.ofNat 1), .ge (.a 5) 0, .le (.a 5) 63, .at (.eq (.a 3) (.a 4)) true, .at (.eq (.a 3) (.a 0)) false, .at (.eq (.a 4) (.a 0)) false, .ge (.a 4) 0]) (ht : TabOK Try.prog val sl0 (tabW 1 false false false)) : Q val := leaf h ht (by kernel_rfl) (by kernel_rfl) (by kernel_rfl)
theorem d1_1001 {val : Nat → Int} (h : Holds val [.le (.wrap .i64 (.add (.c (.ofNat 1)) (.a 5))) 64, .is (.a 1) (.ofNat 1), .ge (.a 5) 0, .le (.a 5) 63, .at (.eq (.a 3) (.a 4)) true, .at (.eq (.a 3) (.a 0)) false, .at (.eq (.a 4) (.a 0)) false, .ge (.a 4) 0]) (ht : TabOK Try.prog val sl0 (tabW 1 false false true)) : Q val := leaf h ht (by kernel_rfl) (by kernel_rfl) (by kernel_rfl)
theorem d1_1110 {val : Nat → Int} (h : Holds val [.ge (.wrap .i64 (.add (.c (.ofNat 1)) (.a 5))) 65, .is (.a 1) (.ofNat 1), .ge (.a 5) 0, .le (.a 5) 63, .at (.eq (.a 3) (.a 4)) true, .at (.eq (.a 3) (.a 0)) true, .ge (.a 4) 0]) (ht : TabOK Try.prog val sl0 (tabW 1 true true false)) : Q val := leaf h ht (by kernel_rfl) (by kernel_rfl) (by kernel_rfl)
theorem d1_1111 {val : Nat → Int} (h : Holds val [.le (.wrap .i64 (.add (.c (.ofNat 1)) (.a 5))) 64, .is (.a 1) (.ofNat 1), .ge (.a 5) 0, .le (.a 5) 63, .at (.eq (.a 3) (.a 4)) true, .at (.eq (.a 3) (.a 0)) true, .ge (.a 4) 0]) (ht : TabOK Try.prog val sl0 (tabW 1 true true true)) : Q val := leaf h ht (by kernel_rfl) (by kernel_rfl) (by kernel_rfl)

theorem d1 : D 1 := by
  intro val e fb wb w h ht h1 h2 h3
  cases e <;> cases fb <;> cases wb <;> cases w
  · exact d1_0000 h ht
  · exact d1_0001 h ht
  · exact d1_0010 h ht
  · exact d1_0011 h ht
  · simp at h1 h2 h3
  · simp at h1 h2 h3
  · exact d1_0110 h ht
  · exact d1_0111 h ht
  · exact d1_1000 h ht
  · exact d1_1001 h ht
  · simp at h1 h2 h3
  · simp at h1 h2 h3
  · simp at h1 h2 h3
  · simp at h1 h2 h3
  · exact d1_1110 h ht
  · exact d1_1111 h ht

theorem d2_0000 {val : Nat → Int} (h : Holds val [.ge (.wrap .i64 (.add (.c (.ofNat 2)) (.a 5))) 65, .is (.a 1) (.ofNat 2), .ge (.a 5) 0, .le (.a 5) 63, .at (.eq (.a 3) (.a 4)) false, .at (.eq (.a 3) (.a 0)) false, .at (.eq (.a 4) (.a 0)) false, .ge (.a 4) 0, .is (.wrap .i64 (.sub (.a 4) (.a 3))) (.ofNat 4)]) (ht : TabOK Try.prog val sl0 (tabW 2 false false false)) : Q val := leaf h ht (by kernel_rfl) (by kernel_rfl) (by kernel_rfl)
theorem d2_0001 {val : Nat → Int} (h : Holds val [.le (.wrap .i64 (.add (.c (.ofNat 2)) (.a 5))) 64, .is (.a 1) (.ofNat 2), .ge (.a 5) 0, .le (.a 5) 63, .at (.eq (.a 3) (.a 4)) false, .at (.eq (.a 3) (.a 0)) false, .at (.eq (.a 4) (.a 0)) false, .ge (.a 4) 0, .is (.wrap .i64 (.sub (.a 4) (.a 3))) (.ofNat 4)]) (ht : TabOK Try.prog val sl0 (tabW 2 false false true)) : Q val := leaf h ht (by kernel_rfl) (by kernel_rfl) (by kernel_rfl)
theorem d2_0010 {val : Nat → Int} (h : Holds val [.ge (.wrap .i64 (.add (.c (.ofNat 2)) (.a 5))) 65, .is (.a 1) (.ofNat 2), .ge (.a 5) 0, .le (.a 5) 63, .at (.eq (.a 3) (.a 4)) false, .at (.eq (.a 3) (.a 0)) false, .at (.eq (.a 4) (.a 0)) true, .ge (.a 4) 0, .is (.wrap .i64 (.sub (.a 4) (.a 3))) (.ofNat 4)]) (ht : TabOK Try.prog val sl0 (tabW 2 false true false)) : Q val := leaf h ht (by kernel_rfl) (by kernel_rfl) (by kernel_rfl)
theorem d2_0011 {val : Nat → Int} (h : Holds val [.le (.wrap .i64 (.add (.c (.ofNat 2)) (.a 5))) 64, .is (.a 1) (.ofNat 2), .ge (.a 5) 0, .le (.a 5) 63, .at (.eq (.a 3) (.a 4)) false, .at (.eq (.a 3) (.a 0)) false, .at (.eq (.a 4) (.a 0)) true, .ge (.a 4) 0, .is (.wrap .i64 (.sub (.a 4) (.a 3))) (.ofNat 4)]) (ht : TabOK Try.prog val sl0 (tabW 2 false true true)) : Q val := leaf h ht (by kernel_rfl) (by kernel_rfl) (by kernel_rfl)
theorem d2_0110 {val : Nat → Int} (h : Holds val [.ge (.wrap .i64 (.add (.c (.ofNat 2)) (.a 5))) 65, .is (.a 1) (.ofNat 2), .ge (.a 5) 0, .le (.a 5) 63, .at (.eq (.a 3) (.a 4)) false, .at (.eq (.a 3) (.a 0)) true, .ge (.a 4) 0, .is (.wrap .i64 (.sub (.a 4) (.a 3))) (.ofNat 4)]) (ht : TabOK Try.prog val sl0 (tabW 2 true true false)) : Q val := leaf h ht (by kernel_rfl) (by kernel_rfl) (by kernel_rfl)
theorem d2_0111 {val : Nat → Int} (h : Holds val [.le (.wrap .i64 (.add (.c (.ofNat 2)) (.a 5))) 64, .is (.a 1) (.ofNat 2), .ge (.a 5) 0, .le (.a 5) 63, .at (.eq (.a 3) (.a 4)) false, .at (.eq (.a 3) (.a 0)) true, .ge (.a 4) 0, .is (.wrap .i64 (.sub (.a 4) (.a 3))) (.ofNat 4)]) (ht : TabOK Try.prog val sl0 (tabW 2 true true true)) : Q val := leaf h ht (by kernel_rfl) (by kernel_rfl) (by kernel_rfl)
theorem d2_1000 {val : Nat → Int} (h : Holds val [.ge (.wrap .i64 (.add (.c (.ofNat 2)) (.a 5))) 65, .is (.a 1) (.ofNat 2), .ge (.a 5) 0, .le (.a 5) 63, .at (.eq (.a 3) (.a 4)) true, .at (.eq (.a 3) (.a 0)) false, .at (.eq (.a 4) (.a 0)) false, .ge (.a 4) 0]) (ht : TabOK Try.prog val sl0 (tabW 2 false false false)) : Q val := leaf h ht (by kernel_rfl) (by kernel_rfl) (by kernel_rfl)
theorem d2_1001 {val : Nat → Int} (h : Holds val [.le (.wrap .i64 (.add (.c (.ofNat 2)) (.a 5))) 64, .is (.a 1) (.ofNat 2), .ge (.a 5) 0, .le (.a 5) 63, .at (.eq (.a 3) (.a 4)) true, .at (.eq (.a 3) (.a 0)) false, .at (.eq (.a 4) (.a 0)) false, .ge (.a 4) 0]) (ht : TabOK Try.prog val sl0 (tabW 2 false false true)) : Q val := leaf h ht (by kernel_rfl) (by kernel_rfl) (by kernel_rfl)
theorem d2_1110 {val : Nat → Int} (h : Holds val [.ge (.wrap .i64 (.add (.c (.ofNat 2)) (.a 5))) 65, .is (.a 1) (.ofNat 2), .ge (.a 5) 0, .le (.a 5) 63, .at (.eq (.a 3) (.a 4)) true, .at (.eq (.a 3) (.a 0)) true, .ge (.a 4) 0]) (ht : TabOK Try.prog val sl0 (tabW 2 true true false)) : Q val := leaf h ht (by kernel_rfl) (by kernel_rfl) (by kernel_rfl)
theorem d2_1111 {val : Nat → Int} (h : Holds val [.le (.wrap .i64 (.add (.c (.ofNat 2)) (.a 5))) 64, .is (.a 1) (.ofNat 2), .ge (.a 5) 0, .le (.a 5) 63, .at (.eq (.a 3) (.a 4)) true, .at (.eq (.a 3) (.a 0)) true, .ge (.a 4) 0]) (ht : TabOK Try.prog val sl0 (tabW 2 true true true)) : Q val := leaf h ht (by kernel_rfl) (by kernel_rfl) (by kernel_rfl)

theorem d2 : D 2 := by
  intro val e fb wb w h ht h1 h2 h3
  cases e <;> cases fb <;> cases wb <;> cases w
  · exact d2_0000 h ht
  · exact d2_0001 h ht
  · exact d2_0010 h ht
  · exact d2_0011 h ht
  · simp at h1 h2 h3
  · simp at h1 h2 h3
  · exact d2_0110 h ht
  · exact d2_0111 h ht
  · exact d2_1000 h ht
  · exact d2_1001 h ht
  · simp at h1 h2 h3
  · simp at h1 h2 h3
  · simp at h1 h2 h3
  · simp at h1 h2 h3
  · exact d2_1110 h ht
  · exact d2_1111 h ht

theorem d3_0000 {val : Nat → Int} (h : Holds val [.ge (.wrap .i64 (.add (.c (.ofNat 3)) (.a 5))) 65, .is (.a 1) (.ofNat 3), .ge (.a 5) 0, .le (.a 5) 63, .at (.eq (.a 3) (.a 4)) false, .at (.eq (.a 3) (.a 0)) false, .at (.eq (.a 4) (.a 0)) false, .ge (.a 4) 0, .is (.wrap .i64 (.sub (.a 4) (.a 3))) (.ofNat 8)]) (ht : TabOK Try.prog val sl0 (tabW 3 false false false)) : Q val := leaf h ht (by kernel_rfl) (by kernel_rfl) (by kernel_rfl)
theorem d3_0001 {val : Nat → Int} (h : Holds val [.le (.wrap .i64 (.add (.c (.ofNat 3)) (.a 5))) 64, .is (.a 1) (.ofNat 3), .ge (.a 5) 0, .le (.a 5) 63, .at (.eq (.a 3) (.a 4)) false, .at (.eq (.a 3) (.a 0)) false, .at (.eq (.a 4) (.a 0)) false, .ge (.a 4) 0, .is (.wrap .i64 (.sub (.a 4) (.a 3))) (.ofNat 8)]) (ht : TabOK Try.prog val sl0 (tabW 3 false false true)) : Q val := leaf h ht (by kernel_rfl) (by kernel_rfl) (by kernel_rfl)
theorem d3_0010 {val : Nat → Int} (h : Holds val [.ge (.wrap .i64 (.add (.c (.ofNat 3)) (.a 5))) 65, .is (.a 1) (.ofNat 3), .ge (.a 5) 0, .le (.a 5) 63, .at (.eq (.a 3) (.a 4)) false, .at (.eq (.a 3) (.a 0)) false, .at (.eq (.a 4) (.a 0)) true, .ge (.a 4) 0, .is (.wrap .i64 (.sub (.a 4) (.a 3))) (.ofNat 8)]) (ht : TabOK Try.prog val sl0 (tabW 3 false true false)) : Q val := leaf h ht (by kernel_rfl) (by kernel_rfl) (by kernel_rfl)
theorem d3_0011 {val : Nat → Int} (h : Holds val [.le (.wrap .i64 (.add (.c (.ofNat 3)) (.a 5))) 64, .is (.a 1) (.ofNat 3), .ge (.a 5) 0, .le (.a 5) 63, .at (.eq (.a 3) (.a 4)) false, .at (.eq (.a 3) (.a 0)) false, .at (.eq (.a 4) (.a 0)) true, .ge (.a 4) 0, .is (.wrap .i64 (.sub (.a 4) (.a 3))) (.ofNat 8)]) (ht : TabOK Try.prog val sl0 (tabW 3 false true true)) : Q val := leaf h ht (by kernel_rfl) (by kernel_rfl) (by kernel_rfl)
theorem d3_0110 {val : Nat → Int} (h : Holds val [.ge (.wrap .i64 (.add (.c (.ofNat 3)) (.a 5))) 65, .is (.a 1) (.ofNat 3), .ge (.a 5) 0, .le (.a 5) 63, .at (.eq (.a 3) (.a 4)) false, .at (.eq (.a 3) (.a 0)) true, .ge (.a 4) 0, .is (.wrap .i64 (.sub (.a 4) (.a 3))) (.ofNat 8)]) (ht : TabOK Try.prog val sl0 (tabW 3 true true false)) : Q val := leaf h ht (by kernel_rfl) (by kernel_rfl) (by kernel_rfl)
theorem d3_0111 {val : Nat → Int} (h : Holds val [.le (.wrap .i64 (.add (.c (.ofNat 3)) (.a 5))) 64, .is (.a 1) (.ofNat 3), .ge (.a 5) 0, .le (.a 5) 63, .at (.eq (.a 3) (.a 4)) false, .at (.eq (.a 3) (.a 0)) true, .ge (.a 4) 0, .is (.wrap .i64 (.sub (.a 4) (.a 3))) (.ofNat 8)]) (ht : TabOK Try.prog val sl0 (tabW 3 true true true)) : Q val := leaf h ht (by kernel_rfl) (by kernel_rfl) (by kernel_rfl)
theorem d3_1000 {val : Nat → Int} (h : Holds val [.ge (.wrap .i64 (.add (.c (.ofNat 3)) (.a 5))) 65, .is (.a 1) (.ofNat 3), .ge (.a 5) 0, .le (.a 5) 63, .at (.eq (.a 3) (.a 4)) true, .at (.eq (.a 3) (.a 0)) false, .at (.eq (.a 4) (.a 0)) false, .ge (.a 4) 0]) (ht : TabOK Try.prog val sl0 (tabW 3 false false false)) : Q val := leaf h ht (by kernel_rfl) (by kernel_rfl) (by kernel_rfl)
theorem d3_1001 {val : Nat → Int} (h : Holds val [.le (.wrap .i64 (.add (.c (.ofNat 3)) (.a 5))) 64, .is (.a 1) (.ofNat 3), .ge (.a 5) 0, .le (.a 5) 63, .at (.eq (.a 3) (.a 4)) true, .at (.eq (.a 3) (.a 0)) false, .at (.eq (.a 4) (.a 0)) false, .ge (.a 4) 0]) (ht : TabOK Try.prog val sl0 (tabW 3 false false true)) : Q val := leaf h ht (by kernel_rfl) (by kernel_rfl) (by kernel_rfl)
theorem d3_1110 {val : Nat → Int} (h : Holds val [.ge (.wrap .i64 (.add (.c (.ofNat 3)) (.a 5))) 65, .is (.a 1) (.ofNat 3), .ge (.a 5) 0, .le (.a 5) 63, .at (.eq (.a 3) (.a 4)) true, .at (.eq (.a 3) (.a 0)) true, .ge (.a 4) 0]) (ht : TabOK Try.prog val sl0 (tabW 3 true true false)) : Q val := leaf h ht (by kernel_rfl) (by kernel_rfl) (by kernel_rfl)
theorem d3_1111 {val : Nat → Int} (h : Holds val [.le (.wrap .i64 (.add (.c (.ofNat 3)) (.a 5))) 64, .is (.a 1) (.ofNat 3), .ge (.a 5) 0, .le (.a 5) 63, .at (.eq (.a 3) (.a 4)) true, .at (.eq (.a 3) (.a 0)) true, .ge (.a 4) 0]) (ht : TabOK Try.prog val sl0 (tabW 3 true true true)) : Q val := leaf h ht (by kernel_rfl) (by kernel_rfl) (by kernel_rfl)

theorem d3 : D 3 := by
  intro val e fb wb w h ht h1 h2 h3
  cases e <;> cases fb <;> cases wb <;> cases w
  · exact d3_0000 h ht
  · exact d3_0001 h ht
  · exact d3_0010 h ht
  · exact d3_0011 h ht
  · simp at h1 h2 h3
  · simp at h1 h2 h3
  · exact d3_0110 h ht
  · exact d3_0111 h ht
  · exact d3_1000 h ht
  · exact d3_1001 h ht
  · simp at h1 h2 h3
  · simp at h1 h2 h3
  · simp at h1 h2 h3
  · simp at h1 h2 h3
  · exact d3_1110 h ht
  · exact d3_1111 h ht

theorem d4_0000 {val : Nat → Int} (h : Holds val [.ge (.wrap .i64 (.add (.c (.ofNat 4)) (.a 5))) 65, .is (.a 1) (.ofNat 4), .ge (.a 5) 0, .le (.a 5) 63, .at (.eq (.a 3) (.a 4)) false, .at (.eq (.a 3) (.a 0)) false, .at (.eq (.a 4) (.a 0)) false, .ge (.a 4) 0, .is (.wrap .i64 (.sub (.a 4) (.a 3))) (.ofNat 16)]) (ht : TabOK Try.prog val sl0 (tabW 4 false false false)) : Q val := leaf h ht (by kernel_rfl) (by kernel_rfl) (by kernel_rfl)
theorem d4_0001 {val : Nat → Int} (h : Holds val [.le (.wrap .i64 (.add (.c (.ofNat 4)) (.a 5))) 64, .is (.a 1) (.ofNat 4), .ge (.a 5) 0, .le (.a 5) 63, .at (.eq (.a 3) (.a 4)) false, .at (.eq (.a 3) (.a 0)) false, .at (.eq (.a 4) (.a 0)) false, .ge (.a 4) 0, .is (.wrap .i64 (.sub (.a 4) (.a 3))) (.ofNat 16)]) (ht : TabOK Try.prog val sl0 (tabW 4 false false true)) : Q val := leaf h ht (by kernel_rfl) (by kernel_rfl) (by kernel_rfl)
theorem d4_0010 {val : Nat → Int} (h : Holds val [.ge (.wrap .i64 (.add (.c (.ofNat 4)) (.a 5))) 65, .is (.a 1) (.ofNat 4), .ge (.a 5) 0, .le (.a 5) 63, .at (.eq (.a 3) (.a 4)) false, .at (.eq (.a 3) (.a 0)) false, .at (.eq (.a 4) (.a 0)) true, .ge (.a 4) 0, .is (.wrap .i64 (.sub (.a 4) (.a 3))) (.ofNat 16)]) (ht : TabOK Try.prog val sl0 (tabW 4 false true false)) : Q val := leaf h ht (by kernel_rfl) (by kernel_rfl) (by kernel_rfl)
theorem d4_0011 {val : Nat → Int} (h : Holds val [.le (.wrap .i64 (.add (.c (.ofNat 4)) (.a 5))) 64, .is (.a 1) (.ofNat 4), .ge (.a 5) 0, .le (.a 5) 63, .at (.eq (.a 3) (.a 4)) false, .at (.eq (.a 3) (.a 0)) false, .at (.eq (.a 4) (.a 0)) true, .ge (.a 4) 0, .is (.wrap .i64 (.sub (.a 4) (.a 3))) (.ofNat 16)]) (ht : TabOK Try.prog val sl0 (tabW 4 false true true)) : Q val := leaf h ht (by kernel_rfl) (by kernel_rfl) (by kernel_rfl)
theorem d4_0110 {val : Nat → Int} (h : Holds val [.ge (.wrap .i64 (.add (.c (.ofNat 4)) (.a 5))) 65, .is (.a 1) (.ofNat 4), .ge (.a 5) 0, .le (.a 5) 63, .at (.eq (.a 3) (.a 4)) false, .at (.eq (.a 3) (.a 0)) true, .ge (.a 4) 0, .is (.wrap .i64 (.sub (.a 4) (.a 3))) (.ofNat 16)]) (ht : TabOK Try.prog val sl0 (tabW 4 true true false)) : Q val := leaf h ht (by kernel_rfl) (by kernel_rfl) (by kernel_rfl)
theorem d4_0111 {val : Nat → Int} (h : Holds val [.le (.wrap .i64 (.add (.c (.ofNat 4)) (.a 5))) 64, .is (.a 1) (.ofNat 4), .ge (.a 5) 0, .le (.a 5) 63, .at (.eq (.a 3) (.a 4)) false, .at (.eq (.a 3) (.a 0)) true, .ge (.a 4) 0, .is (.wrap .i64 (.sub (.a 4) (.a 3))) (.ofNat 16)]) (ht : TabOK Try.prog val sl0 (tabW 4 true true true)) : Q val := leaf h ht (by kernel_rfl) (by kernel_rfl) (by kernel_rfl)
theorem d4_1000 {val : Nat → Int} (h : Holds val [.ge (.wrap .i64 (.add (.c (.ofNat 4)) (.a 5))) 65, .is (.a 1) (.ofNat 4), .ge (.a 5) 0, .le (.a 5) 63, .at (.eq (.a 3) (.a 4)) true, .at (.eq (.a 3) (.a 0)) false, .at (.eq (.a 4) (.a 0)) false, .ge (.a 4) 0]) (ht : TabOK Try.prog val sl0 (tabW 4 false false false)) : Q val := leaf h ht (by kernel_rfl) (by kernel_rfl) (by kernel_rfl)
theorem d4_1001 {val : Nat → Int} (h : Holds val [.le (.wrap .i64 (.add (.c (.ofNat 4)) (.a 5))) 64, .is (.a 1) (.ofNat 4), .ge (.a 5) 0, .le (.a 5) 63, .at (.eq (.a 3) (.a 4)) true, .at (.eq (.a 3) (.a 0)) false, .at (.eq (.a 4) (.a 0)) false, .ge (.a 4) 0]) (ht : TabOK Try.prog val sl0 (tabW 4 false false true)) : Q val := leaf h ht (by kernel_rfl) (by kernel_rfl) (by kernel_rfl)
theorem d4_1110 {val : Nat → Int} (h : Holds val [.ge (.wrap .i64 (.add (.c (.ofNat 4)) (.a 5))) 65, .is (.a 1) (.ofNat 4), .ge (.a 5) 0, .le (.a 5) 63, .at (.eq (.a 3) (.a 4)) true, .at (.eq (.a 3) (.a 0)) true, .ge (.a 4) 0]) (ht : TabOK Try.prog val sl0 (tabW 4 true true false)) : Q val := leaf h ht (by kernel_rfl) (by kernel_rfl) (by kernel_rfl)
theorem d4_1111 {val : Nat → Int} (h : Holds val [.le (.wrap .i64 (.add (.c (.ofNat 4)) (.a 5))) 64, .is (.a 1) (.ofNat 4), .ge (.a 5) 0, .le (.a 5) 63, .at (.eq (.a 3) (.a 4)) true, .at (.eq (.a 3) (.a 0)) true, .ge (.a 4) 0]) (ht : TabOK Try.prog val sl0 (tabW 4 true true true)) : Q val := leaf h ht (by kernel_rfl) (by kernel_rfl) (by kernel_rfl)

theorem d4 : D 4 := by
  intro val e fb wb w h ht h1 h2 h3
  cases e <;> cases fb <;> cases wb <;> cases w
  · exact d4_0000 h ht
  · exact d4_0001 h ht
  · exact d4_0010 h ht
  · exact d4_0011 h ht
  · simp at h1 h2 h3
  · simp at h1 h2 h3
  · exact d4_0110 h ht
  · exact d4_0111 h ht
  · exact d4_1000 h ht
  · exact d4_1001 h ht
  · simp at h1 h2 h3
  · simp at h1 h2 h3
  · simp at h1 h2 h3
  · simp at h1 h2 h3
  · exact d4_1110 h ht
  · exact d4_1111 h ht

theorem d5_0000 {val : Nat → Int} (h : Holds val [.ge (.wrap .i64 (.add (.c (.ofNat 5)) (.a 5))) 65, .is (.a 1) (.ofNat 5), .ge (.a 5) 0, .le (.a 5) 63, .at (.eq (.a 3) (.a 4)) false, .at (.eq (.a 3) (.a 0)) false, .at (.eq (.a 4) (.a 0)) false, .ge (.a 4) 0, .is (.wrap .i64 (.sub (.a 4) (.a 3))) (.ofNat 32)]) (ht : TabOK Try.prog val sl0 (tabW 5 false false false)) : Q val := leaf h ht (by kernel_rfl) (by kernel_rfl) (by kernel_rfl)
theorem d5_0001 {val : Nat → Int} (h : Holds val [.le (.wrap .i64 (.add (.c (.ofNat 5)) (.a 5))) 64, .is (.a 1) (.ofNat 5), .ge (.a 5) 0, .le (.a 5) 63, .at (.eq (.a 3) (.a 4)) false, .at (.eq (.a 3) (.a 0)) false, .at (.eq (.a 4) (.a 0)) false, .ge (.a 4) 0, .is (.wrap .i64 (.sub (.a 4) (.a 3))) (.ofNat 32)]) (ht : TabOK Try.prog val sl0 (tabW 5 false false true)) : Q val := leaf h ht (by kernel_rfl) (by kernel_rfl) (by kernel_rfl)
theorem d5_0010 {val : Nat → Int} (h : Holds val [.ge (.wrap .i64 (.add (.c (.ofNat 5)) (.a 5))) 65, .is (.a 1) (.ofNat 5), .ge (.a 5) 0, .le (.a 5) 63, .at (.eq (.a 3) (.a 4)) false, .at (.eq (.a 3) (.a 0)) false, .at (.eq (.a 4) (.a 0)) true, .ge (.a 4) 0, .is (.wrap .i64 (.sub (.a 4) (.a 3))) (.ofNat 32)]) (ht : TabOK Try.prog val sl0 (tabW 5 false true false)) : Q val := leaf h ht (by kernel_rfl) (by kernel_rfl) (by kernel_rfl)
theorem d5_0011 {val : Nat → Int} (h : Holds val [.le (.wrap .i64 (.add (.c (.ofNat 5)) (.a 5))) 64, .is (.a 1) (.ofNat 5), .ge (.a 5) 0, .le (.a 5) 63, .at (.eq (.a 3) (.a 4)) false, .at (.eq (.a 3) (.a 0)) false, .at (.eq (.a 4) (.a 0)) true, .ge (.a 4) 0, .is (.wrap .i64 (.sub (.a 4) (.a 3))) (.ofNat 32)]) (ht : TabOK Try.prog val sl0 (tabW 5 false true true)) : Q val := leaf h ht (by kernel_rfl) (by kernel_rfl) (by kernel_rfl)
theorem d5_0110 {val : Nat → Int} (h : Holds val [.ge (.wrap .i64 (.add (.c (.ofNat 5)) (.a 5))) 65, .is (.a 1) (.ofNat 5), .ge (.a 5) 0, .le (.a 5) 63, .at (.eq (.a 3) (.a 4)) false, .at (.eq (.a 3) (.a 0)) true, .ge (.a 4) 0, .is (.wrap .i64 (.sub (.a 4) (.a 3))) (.ofNat 32)]) (ht : TabOK Try.prog val sl0 (tabW 5 true true false)) : Q val := leaf h ht (by kernel_rfl) (by kernel_rfl) (by kernel_rfl)
theorem d5_0111 {val : Nat → Int} (h : Holds val [.le (.wrap .i64 (.add (.c (.ofNat 5)) (.a 5))) 64, .is (.a 1) (.ofNat 5), .ge (.a 5) 0, .le (.a 5) 63, .at (.eq (.a 3) (.a 4)) false, .at (.eq (.a 3) (.a 0)) true, .ge (.a 4) 0, .is (.wrap .i64 (.sub (.a 4) (.a 3))) (.ofNat 32)]) (ht : TabOK Try.prog val sl0 (tabW 5 true true true)) : Q val := leaf h ht (by kernel_rfl) (by kernel_rfl) (by kernel_rfl)
theorem d5_1000 {val : Nat → Int} (h : Holds val [.ge (.wrap .i64 (.add (.c (.ofNat 5)) (.a 5))) 65, .is (.a 1) (.ofNat 5), .ge (.a 5) 0, .le (.a 5) 63, .at (.eq (.a 3) (.a 4)) true, .at (.eq (.a 3) (.a 0)) false, .at (.eq (.a 4) (.a 0)) false, .ge (.a 4) 0]) (ht : TabOK Try.prog val sl0 (tabW 5 false false false)) : Q val := leaf h ht (by kernel_rfl) (by kernel_rfl) (by kernel_rfl)
theorem d5_1001 {val : Nat → Int} (h : Holds val [.le (.wrap .i64 (.add (.c (.ofNat 5)) (.a 5))) 64, .is (.a 1) (.ofNat 5), .ge (.a 5) 0, .le (.a 5) 63, .at (.eq (.a 3) (.a 4)) true, .at (.eq (.a 3) (.a 0)) false, .at (.eq (.a 4) (.a 0)) false, .ge (.a 4) 0]) (ht : TabOK Try.prog val sl0 (tabW 5 false false true)) : Q val := leaf h ht (by kernel_rfl) (by kernel_rfl) (by kernel_rfl)
theorem d5_1110 {val : Nat → Int} (h : Holds val [.ge (.wrap .i64 (.add (.c (.ofNat 5)) (.a 5))) 65, .is (.a 1) (.ofNat 5), .ge (.a 5) 0, .le (.a 5) 63, .at (.eq (.a 3) (.a 4)) true, .at (.eq (.a 3) (.a 0)) true, .ge (.a 4) 0]) (ht : TabOK Try.prog val sl0 (tabW 5 true true false)) : Q val := leaf h ht (by kernel_rfl) (by kernel_rfl) (by kernel_rfl)
theorem d5_1111 {val : Nat → Int} (h : Holds val [.le (.wrap .i64 (.add (.c (.ofNat 5)) (.a 5))) 64, .is (.a 1) (.ofNat 5), .ge (.a 5) 0, .le (.a 5) 63, .at (.eq (.a 3) (.a 4)) true, .at (.eq (.a 3) (.a 0)) true, .ge (.a 4) 0]) (ht : TabOK Try.prog val sl0 (tabW 5 true true true)) : Q val := leaf h ht (by kernel_rfl) (by kernel_rfl) (by kernel_rfl)

theorem d5 : D 5 := by
  intro val e fb wb w h ht h1 h2 h3
  cases e <;> cases fb <;> cases wb <;> cases w
  · exact d5_0000 h ht
  · exact d5_0001 h ht
  · exact d5_0010 h ht
  · exact d5_0011 h ht
  · simp at h1 h2 h3
  · simp at h1 h2 h3
  · exact d5_0110 h ht
  · exact d5_0111 h ht
  · exact d5_1000 h ht
  · exact d5_1001 h ht
  · simp at h1 h2 h3
  · simp at h1 h2 h3
  · simp at h1 h2 h3
  · simp at h1 h2 h3
  · exact d5_1110 h ht
  · exact d5_1111 h ht

theorem d6_0000 {val : Nat → Int} (h : Holds val [.ge (.wrap .i64 (.add (.c (.ofNat 6)) (.a 5))) 65, .is (.a 1) (.ofNat 6), .ge (.a 5) 0, .le (.a 5) 63, .at (.eq (.a 3) (.a 4)) false, .at (.eq (.a 3) (.a 0)) false, .at (.eq (.a 4) (.a 0)) false, .ge (.a 4) 0, .is (.wrap .i64 (.sub (.a 4) (.a 3))) (.ofNat 64)]) (ht : TabOK Try.prog val sl0 (tabW 6 false false false)) : Q val := leaf h ht (by kernel_rfl) (by kernel_rfl) (by kernel_rfl)
theorem d6_0001 {val : Nat → Int} (h : Holds val [.le (.wrap .i64 (.add (.c (.ofNat 6)) (.a 5))) 64, .is (.a 1) (.ofNat 6), .ge (.a 5) 0, .le (.a 5) 63, .at (.eq (.a 3) (.a 4)) false, .at (.eq (.a 3) (.a 0)) false, .at (.eq (.a 4) (.a 0)) false, .ge (.a 4) 0, .is (.wrap .i64 (.sub (.a 4) (.a 3))) (.ofNat 64)]) (ht : TabOK Try.prog val sl0 (tabW 6 false false true)) : Q val := leaf h ht (by kernel_rfl) (by kernel_rfl) (by kernel_rfl)
theorem d6_0010 {val : Nat → Int} (h : Holds val [.ge (.wrap .i64 (.add (.c (.ofNat 6)) (.a 5))) 65, .is (.a 1) (.ofNat 6), .ge (.a 5) 0, .le (.a 5) 63, .at (.eq (.a 3) (.a 4)) false, .at (.eq (.a 3) (.a 0)) false, .at (.eq (.a 4) (.a 0)) true, .ge (.a 4) 0, .is (.wrap .i64 (.sub (.a 4) (.a 3))) (.ofNat 64)]) (ht : TabOK Try.prog val sl0 (tabW 6 false true false)) : Q val := leaf h ht (by kernel_rfl) (by kernel_rfl) (by kernel_rfl)
theorem d6_0011 {val : Nat → Int} (h : Holds val [.le (.wrap .i64 (.add (.c (.ofNat 6)) (.a 5))) 64, .is (.a 1) (.ofNat 6), .ge (.a 5) 0, .le (.a 5) 63, .at (.eq (.a 3) (.a 4)) false, .at (.eq (.a 3) (.a 0)) false, .at (.eq (.a 4) (.a 0)) true, .ge (.a 4) 0, .is (.wrap .i64 (.sub (.a 4) (.a 3))) (.ofNat 64)]) (ht : TabOK Try.prog val sl0 (tabW 6 false true true)) : Q val := leaf h ht (by kernel_rfl) (by kernel_rfl) (by kernel_rfl)
theorem d6_0110 {val : Nat → Int} (h : Holds val [.ge (.wrap .i64 (.add (.c (.ofNat 6)) (.a 5))) 65, .is (.a 1) (.ofNat 6), .ge (.a 5) 0, .le (.a 5) 63, .at (.eq (.a 3) (.a 4)) false, .at (.eq (.a 3) (.a 0)) true, .ge (.a 4) 0, .is (.wrap .i64 (.sub (.a 4) (.a 3))) (.ofNat 64)]) (ht : TabOK Try.prog val sl0 (tabW 6 true true false)) : Q val := leaf h ht (by kernel_rfl) (by kernel_rfl) (by kernel_rfl)
theorem d6_0111 {val : Nat → Int} (h : Holds val [.le (.wrap .i64 (.add (.c (.ofNat 6)) (.a 5))) 64, .is (.a 1) (.ofNat 6), .ge (.a 5) 0, .le (.a 5) 63, .at (.eq (.a 3) (.a 4)) false, .at (.eq (.a 3) (.a 0)) true, .ge (.a 4) 0, .is (.wrap .i64 (.sub (.a 4) (.a 3))) (.ofNat 64)]) (ht : TabOK Try.prog val sl0 (tabW 6 true true true)) : Q val := leaf h ht (by kernel_rfl) (by kernel_rfl) (by kernel_rfl)
theorem d6_1000 {val : Nat → Int} (h : Holds val [.ge (.wrap .i64 (.add (.c (.ofNat 6)) (.a 5))) 65, .is (.a 1) (.ofNat 6), .ge (.a 5) 0, .le (.a 5) 63, .at (.eq (.a 3) (.a 4)) true, .at (.eq (.a 3) (.a 0)) false, .at (.eq (.a 4) (.a 0)) false, .ge (.a 4) 0]) (ht : TabOK Try.prog val sl0 (tabW 6 false false false)) : Q val := leaf h ht (by kernel_rfl) (by kernel_rfl) (by kernel_rfl)
theorem d6_1001 {val : Nat → Int} (h : Holds val [.le (.wrap .i64 (.add (.c (.ofNat 6)) (.a 5))) 64, .is (.a 1) (.ofNat 6), .ge (.a 5) 0, .le (.a 5) 63, .at (.eq (.a 3) (.a 4)) true, .at (.eq (.a 3) (.a 0)) false, .at (.eq (.a 4) (.a 0)) false, .ge (.a 4) 0]) (ht : TabOK Try.prog val sl0 (tabW 6 false false true)) : Q val := leaf h ht (by kernel_rfl) (by kernel_rfl) (by kernel_rfl)
theorem d6_1110 {val : Nat → Int} (h : Holds val [.ge (.wrap .i64 (.add (.c (.ofNat 6)) (.a 5))) 65, .is (.a 1) (.ofNat 6), .ge (.a 5) 0, .le (.a 5) 63, .at (.eq (.a 3) (.a 4)) true, .at (.eq (.a 3) (.a 0)) true, .ge (.a 4) 0]) (ht : TabOK Try.prog val sl0 (tabW 6 true true false)) : Q val := leaf h ht (by kernel_rfl) (by kernel_rfl) (by kernel_rfl)
theorem d6_1111 {val : Nat → Int} (h : Holds val [.le (.wrap .i64 (.add (.c (.ofNat 6)) (.a 5))) 64, .is (.a 1) (.ofNat 6), .ge (.a 5) 0, .le (.a 5) 63, .at (.eq (.a 3) (.a 4)) true, .at (.eq (.a 3) (.a 0)) true, .ge (.a 4) 0]) (ht : TabOK Try.prog val sl0 (tabW 6 true true true)) : Q val := leaf h ht (by kernel_rfl) (by kernel_rfl) (by kernel_rfl)

theorem d6 : D 6 := by
  intro val e fb wb w h ht h1 h2 h3
  cases e <;> cases fb <;> cases wb <;> cases w
  · exact d6_0000 h ht
  · exact d6_0001 h ht
  · exact d6_0010 h ht
  · exact d6_0011 h ht
  · simp at h1 h2 h3
  · simp at h1 h2 h3
  · exact d6_0110 h ht
  · exact d6_0111 h ht
  · exact d6_1000 h ht
  · exact d6_1001 h ht
  · simp at h1 h2 h3
  · simp at h1 h2 h3
  · simp at h1 h2 h3
  · simp at h1 h2 h3
  · exact d6_1110 h ht
  · exact d6_1111 h ht

theorem d7_0000 {val : Nat → Int} (h : Holds val [.ge (.wrap .i64 (.add (.c (.ofNat 7)) (.a 5))) 65, .is (.a 1) (.ofNat 7), .ge (.a 5) 0, .le (.a 5) 63, .at (.eq (.a 3) (.a 4)) false, .at (.eq (.a 3) (.a 0)) false, .at (.eq (.a 4) (.a 0)) false, .ge (.a 4) 0, .is (.wrap .i64 (.sub (.a 4) (.a 3))) (.ofNat 128)]) (ht : TabOK Try.prog val sl0 (tabW 7 false false false)) : Q val := leaf h ht (by kernel_rfl) (by kernel_rfl) (by kernel_rfl)
theorem d7_0001 {val : Nat → Int} (h : Holds val [.le (.wrap .i64 (.add (.c (.ofNat 7)) (.a 5))) 64, .is (.a 1) (.ofNat 7), .ge (.a 5) 0, .le (.a 5) 63, .at (.eq (.a 3) (.a 4)) false, .at (.eq (.a 3) (.a 0)) false, .at (.eq (.a 4) (.a 0)) false, .ge (.a 4) 0, .is (.wrap .i64 (.sub (.a 4) (.a 3))) (.ofNat 128)]) (ht : TabOK Try.prog val sl0 (tabW 7 false false true)) : Q val := leaf h ht (by kernel_rfl) (by kernel_rfl) (by kernel_rfl)
theorem d7_0010 {val : Nat → Int} (h : Holds val [.ge (.wrap .i64 (.add (.c (.ofNat 7)) (.a 5))) 65, .is (.a 1) (.ofNat 7), .ge (.a 5) 0, .le (.a 5) 63, .at (.eq (.a 3) (.a 4)) false, .at (.eq (.a 3) (.a 0)) false, .at (.eq (.a 4) (.a 0)) true, .ge (.a 4) 0, .is (.wrap .i64 (.sub (.a 4) (.a 3))) (.ofNat 128)]) (ht : TabOK Try.prog val sl0 (tabW 7 false true false)) : Q val := leaf h ht (by kernel_rfl) (by kernel_rfl) (by kernel_rfl)
theorem d7_0011 {val : Nat → Int} (h : Holds val [.le (.wrap .i64 (.add (.c (.ofNat 7)) (.a 5))) 64, .is (.a 1) (.ofNat 7), .ge (.a 5) 0, .le (.a 5) 63, .at (.eq (.a 3) (.a 4)) false, .at (.eq (.a 3) (.a 0)) false, .at (.eq (.a 4) (.a 0)) true, .ge (.a 4) 0, .is (.wrap .i64 (.sub (.a 4) (.a 3))) (.ofNat 128)]) (ht : TabOK Try.prog val sl0 (tabW 7 false true true)) : Q val := leaf h ht (by kernel_rfl) (by kernel_rfl) (by kernel_rfl)
theorem d7_0110 {val : Nat → Int} (h : Holds val [.ge (.wrap .i64 (.add (.c (.ofNat 7)) (.a 5))) 65, .is (.a 1) (.ofNat 7), .ge (.a 5) 0, .le (.a 5) 63, .at (.eq (.a 3) (.a 4)) false, .at (.eq (.a 3) (.a 0)) true, .ge (.a 4) 0, .is (.wrap .i64 (.sub (.a 4) (.a 3))) (.ofNat 128)]) (ht : TabOK Try.prog val sl0 (tabW 7 true true false)) : Q val := leaf h ht (by kernel_rfl) (by kernel_rfl) (by kernel_rfl)
theorem d7_0111 {val : Nat → Int} (h : Holds val [.le (.wrap .i64 (.add (.c (.ofNat 7)) (.a 5))) 64, .is (.a 1) (.ofNat 7), .ge (.a 5) 0, .le (.a 5) 63, .at (.eq (.a 3) (.a 4)) false, .at (.eq (.a 3) (.a 0)) true, .ge (.a 4) 0, .is (.wrap .i64 (.sub (.a 4) (.a 3))) (.ofNat 128)]) (ht : TabOK Try.prog val sl0 (tabW 7 true true true)) : Q val := leaf h ht (by kernel_rfl) (by kernel_rfl) (by kernel_rfl)
theorem d7_1000 {val : Nat → Int} (h : Holds val [.ge (.wrap .i64 (.add (.c (.ofNat 7)) (.a 5))) 65, .is (.a 1) (.ofNat 7), .ge (.a 5) 0, .le (.a 5) 63, .at (.eq (.a 3) (.a 4)) true, .at (.eq (.a 3) (.a 0)) false, .at (.eq (.a 4) (.a 0)) false, .ge (.a 4) 0]) (ht : TabOK Try.prog val sl0 (tabW 7 false false false)) : Q val := leaf h ht (by kernel_rfl) (by kernel_rfl) (by kernel_rfl)
theorem d7_1001 {val : Nat → Int} (h : Holds val [.le (.wrap .i64 (.add (.c (.ofNat 7)) (.a 5))) 64, .is (.a 1) (.ofNat 7), .ge (.a 5) 0, .le (.a 5) 63, .at (.eq (.a 3) (.a 4)) true, .at (.eq (.a 3) (.a 0)) false, .at (.eq (.a 4) (.a 0)) false, .ge (.a 4) 0]) (ht : TabOK Try.prog val sl0 (tabW 7 false false true)) : Q val := leaf h ht (by kernel_rfl) (by kernel_rfl) (by kernel_rfl)
theorem d7_1110 {val : Nat → Int} (h : Holds val [.ge (.wrap .i64 (.add (.c (.ofNat 7)) (.a 5))) 65, .is (.a 1) (.ofNat 7), .ge (.a 5) 0, .le (.a 5) 63, .at (.eq (.a 3) (.a 4)) true, .at (.eq (.a 3) (.a 0)) true, .ge (.a 4) 0]) (ht : TabOK Try.prog val sl0 (tabW 7 true true false)) : Q val := leaf h ht (by kernel_rfl) (by kernel_rfl) (by kernel_rfl)
theorem d7_1111 {val : Nat → Int} (h : Holds val [.le (.wrap .i64 (.add (.c (.ofNat 7)) (.a 5))) 64, .is (.a 1) (.ofNat 7), .ge (.a 5) 0, .le (.a 5) 63, .at (.eq (.a 3) (.a 4)) true, .at (.eq (.a 3) (.a 0)) true, .ge (.a 4) 0]) (ht : TabOK Try.prog val sl0 (tabW 7 true true true)) : Q val := leaf h ht (by kernel_rfl) (by kernel_rfl) (by kernel_rfl)

theorem d7 : D 7 := by
  intro val e fb wb w h ht h1 h2 h3
  cases e <;> cases fb <;> cases wb <;> cases w
  · exact d7_0000 h ht
  · exact d7_0001 h ht
  · exact d7_0010 h ht
  · exact d7_0011 h ht
  · simp at h1 h2 h3
  · simp at h1 h2 h3
  · exact d7_0110 h ht
  · exact d7_0111 h ht
  · exact d7_1000 h ht
  · exact d7_1001 h ht
  · simp at h1 h2 h3
  · simp at h1 h2 h3
  · simp at h1 h2 h3
  · simp at h1 h2 h3
  · exact d7_1110 h ht
  · exact d7_1111 h ht

theorem d8_0000 {val : Nat → Int} (h : Holds val [.ge (.wrap .i64 (.add (.c (.ofNat 8)) (.a 5))) 65, .is (.a 1) (.ofNat 8), .ge (.a 5) 0, .le (.a 5) 63, .at (.eq (.a 3) (.a 4)) false, .at (.eq (.a 3) (.a 0)) false, .at (.eq (.a 4) (.a 0)) false, .ge (.a 4) 0, .is (.wrap .i64 (.sub (.a 4) (.a 3))) (.ofNat 256)]) (ht : TabOK Try.prog val sl0 (tabW 8 false false false)) : Q val := leaf h ht (by kernel_rfl) (by kernel_rfl) (by kernel_rfl)
theorem d8_0001 {val : Nat → Int} (h : Holds val [.le (.wrap .i64 (.add (.c (.ofNat 8)) (.a 5))) 64, .is (.a 1) (.ofNat 8), .ge (.a 5) 0, .le (.a 5) 63, .at (.eq (.a 3) (.a 4)) false, .at (.eq (.a 3) (.a 0)) false, .at (.eq (.a 4) (.a 0)) false, .ge (.a 4) 0, .is (.wrap .i64 (.sub (.a 4) (.a 3))) (.ofNat 256)]) (ht : TabOK Try.prog val sl0 (tabW 8 false false true)) : Q val := leaf h ht (by kernel_rfl) (by kernel_rfl) (by kernel_rfl)
theorem d8_0010 {val : Nat → Int} (h : Holds val [.ge (.wrap .i64 (.add (.c (.ofNat 8)) (.a 5))) 65, .is (.a 1) (.ofNat 8), .ge (.a 5) 0, .le (.a 5) 63, .at (.eq (.a 3) (.a 4)) false, .at (.eq (.a 3) (.a 0)) false, .at (.eq (.a 4) (.a 0)) true, .ge (.a 4) 0, .is (.wrap .i64 (.sub (.a 4) (.a 3))) (.ofNat 256)]) (ht : TabOK Try.prog val sl0 (tabW 8 false true false)) : Q val := leaf h ht (by kernel_rfl) (by kernel_rfl) (by kernel_rfl)
theorem d8_0011 {val : Nat → Int} (h : Holds val [.le (.wrap .i64 (.add (.c (.ofNat 8)) (.a 5))) 64, .is (.a 1) (.ofNat 8), .ge (.a 5) 0, .le (.a 5) 63, .at (.eq (.a 3) (.a 4)) false, .at (.eq (.a 3) (.a 0)) false, .at (.eq (.a 4) (.a 0)) true, .ge (.a 4) 0, .is (.wrap .i64 (.sub (.a 4) (.a 3))) (.ofNat 256)]) (ht : TabOK Try.prog val sl0 (tabW 8 false true true)) : Q val := leaf h ht (by kernel_rfl) (by kernel_rfl) (by kernel_rfl)
theorem d8_0110 {val : Nat → Int} (h : Holds val [.ge (.wrap .i64 (.add (.c (.ofNat 8)) (.a 5))) 65, .is (.a 1) (.ofNat 8), .ge (.a 5) 0, .le (.a 5) 63, .at (.eq (.a 3) (.a 4)) false, .at (.eq (.a 3) (.a 0)) true, .ge (.a 4) 0, .is (.wrap .i64 (.sub (.a 4) (.a 3))) (.ofNat 256)]) (ht : TabOK Try.prog val sl0 (tabW 8 true true false)) : Q val := leaf h ht (by kernel_rfl) (by kernel_rfl) (by kernel_rfl)
theorem d8_0111 {val : Nat → Int} (h : Holds val [.le (.wrap .i64 (.add (.c (.ofNat 8)) (.a 5))) 64, .is (.a 1) (.ofNat 8), .ge (.a 5) 0, .le (.a 5) 63, .at (.eq (.a 3) (.a 4)) false, .at (.eq (.a 3) (.a 0)) true, .ge (.a 4) 0, .is (.wrap .i64 (.sub (.a 4) (.a 3))) (.ofNat 256)]) (ht : TabOK Try.prog val sl0 (tabW 8 true true true)) : Q val := leaf h ht (by kernel_rfl) (by kernel_rfl) (by kernel_rfl)
theorem d8_1000 {val : Nat → Int} (h : Holds val [.ge (.wrap .i64 (.add (.c (.ofNat 8)) (.a 5))) 65, .is (.a 1) (.ofNat 8), .ge (.a 5) 0, .le (.a 5) 63, .at (.eq (.a 3) (.a 4)) true, .at (.eq (.a 3) (.a 0)) false, .at (.eq (.a 4) (.a 0)) false, .ge (.a 4) 0]) (ht : TabOK Try.prog val sl0 (tabW 8 false false false)) : Q val := leaf h ht (by kernel_rfl) (by kernel_rfl) (by kernel_rfl)
theorem d8_1001 {val : Nat → Int} (h : Holds val [.le (.wrap .i64 (.add (.c (.ofNat 8)) (.a 5))) 64, .is (.a 1) (.ofNat 8), .ge (.a 5) 0, .le (.a 5) 63, .at (.eq (.a 3) (.a 4)) true, .at (.eq (.a 3) (.a 0)) false, .at (.eq (.a 4) (.a 0)) false, .ge (.a 4) 0]) (ht : TabOK Try.prog val sl0 (tabW 8 false false true)) : Q val := leaf h ht (by kernel_rfl) (by kernel_rfl) (by kernel_rfl)
theorem d8_1110 {val : Nat → Int} (h : Holds val [.ge (.wrap .i64 (.add (.c (.ofNat 8)) (.a 5))) 65, .is (.a 1) (.ofNat 8), .ge (.a 5) 0, .le (.a 5) 63, .at (.eq (.a 3) (.a 4)) true, .at (.eq (.a 3) (.a 0)) true, .ge (.a 4) 0]) (ht : TabOK Try.prog val sl0 (tabW 8 true true false)) : Q val := leaf h ht (by kernel_rfl) (by kernel_rfl) (by kernel_rfl)
theorem d8_1111 {val : Nat → Int} (h : Holds val [.le (.wrap .i64 (.add (.c (.ofNat 8)) (.a 5))) 64, .is (.a 1) (.ofNat 8), .ge (.a 5) 0, .le (.a 5) 63, .at (.eq (.a 3) (.a 4)) true, .at (.eq (.a 3) (.a 0)) true, .ge (.a 4) 0]) (ht : TabOK Try.prog val sl0 (tabW 8 true true true)) : Q val := leaf h ht (by kernel_rfl) (by kernel_rfl) (by kernel_rfl)

theorem d8 : D 8 := by
  intro val e fb wb w h ht h1 h2 h3
  cases e <;> cases fb <;> cases wb <;> cases w
  · exact d8_0000 h ht
  · exact d8_0001 h ht
  · exact d8_0010 h ht
  · exact d8_0011 h ht
  · simp at h1 h2 h3
  · simp at h1 h2 h3
  · exact d8_0110 h ht
  · exact d8_0111 h ht
  · exact d8_1000 h ht
  · exact d8_1001 h ht
  · simp at h1 h2 h3
  · simp at h1 h2 h3
  · simp at h1 h2 h3
  · simp at h1 h2 h3
  · exact d8_1110 h ht
  · exact d8_1111 h ht

theorem d9_0000 {val : Nat → Int} (h : Holds val [.ge (.wrap .i64 (.add (.c (.ofNat 9)) (.a 5))) 65, .is (.a 1) (.ofNat 9), .ge (.a 5) 0, .le (.a 5) 63, .at (.eq (.a 3) (.a 4)) false, .at (.eq (.a 3) (.a 0)) false, .at (.eq (.a 4) (.a 0)) false, .ge (.a 4) 0, .is (.wrap .i64 (.sub (.a 4) (.a 3))) (.ofNat 512)]) (ht : TabOK Try.prog val sl0 (tabW 9 false false false)) : Q val := leaf h ht (by kernel_rfl) (by kernel_rfl) (by kernel_rfl)
theorem d9_0001 {val : Nat → Int} (h : Holds val [.le (.wrap .i64 (.add (.c (.ofNat 9)) (.a 5))) 64, .is (.a 1) (.ofNat 9), .ge (.a 5) 0, .le (.a 5) 63, .at (.eq (.a 3) (.a 4)) false, .at (.eq (.a 3) (.a 0)) false, .at (.eq (.a 4) (.a 0)) false, .ge (.a 4) 0, .is (.wrap .i64 (.sub (.a 4) (.a 3))) (.ofNat 512)]) (ht : TabOK Try.prog val sl0 (tabW 9 false false true)) : Q val := leaf h ht (by kernel_rfl) (by kernel_rfl) (by kernel_rfl)
theorem d9_0010 {val : Nat → Int} (h : Holds val [.ge (.wrap .i64 (.add (.c (.ofNat 9)) (.a 5))) 65, .is (.a 1) (.ofNat 9), .ge (.a 5) 0, .le (.a 5) 63, .at (.eq (.a 3) (.a 4)) false, .at (.eq (.a 3) (.a 0)) false, .at (.eq (.a 4) (.a 0)) true, .ge (.a 4) 0, .is (.wrap .i64 (.sub (.a 4) (.a 3))) (.ofNat 512)]) (ht : TabOK Try.prog val sl0 (tabW 9 false true false)) : Q val := leaf h ht (by kernel_rfl) (by kernel_rfl) (by kernel_rfl)
theorem d9_0011 {val : Nat → Int} (h : Holds val [.le (.wrap .i64 (.add (.c (.ofNat 9)) (.a 5))) 64, .is (.a 1) (.ofNat 9), .ge (.a 5) 0, .le (.a 5) 63, .at (.eq (.a 3) (.a 4)) false, .at (.eq (.a 3) (.a 0)) false, .at (.eq (.a 4) (.a 0)) true, .ge (.a 4) 0, .is (.wrap .i64 (.sub (.a 4) (.a 3))) (.ofNat 512)]) (ht : TabOK Try.prog val sl0 (tabW 9 false true true)) : Q val := leaf h ht (by kernel_rfl) (by kernel_rfl) (by kernel_rfl)
theorem d9_0110 {val : Nat → Int} (h : Holds val [.ge (.wrap .i64 (.add (.c (.ofNat 9)) (.a 5))) 65, .is (.a 1) (.ofNat 9), .ge (.a 5) 0, .le (.a 5) 63, .at (.eq (.a 3) (.a 4)) false, .at (.eq (.a 3) (.a 0)) true, .ge (.a 4) 0, .is (.wrap .i64 (.sub (.a 4) (.a 3))) (.ofNat 512)]) (ht : TabOK Try.prog val sl0 (tabW 9 true true false)) : Q val := leaf h ht (by kernel_rfl) (by kernel_rfl) (by kernel_rfl)
theorem d9_0111 {val : Nat → Int} (h : Holds val [.le (.wrap .i64 (.add (.c (.ofNat 9)) (.a 5))) 64, .is (.a 1) (.ofNat 9), .ge (.a 5) 0, .le (.a 5) 63, .at (.eq (.a 3) (.a 4)) false, .at (.eq (.a 3) (.a 0)) true, .ge (.a 4) 0, .is (.wrap .i64 (.sub (.a 4) (.a 3))) (.ofNat 512)]) (ht : TabOK Try.prog val sl0 (tabW 9 true true true)) : Q val := leaf h ht (by kernel_rfl) (by kernel_rfl) (by kernel_rfl)
theorem d9_1000 {val : Nat → Int} (h : Holds val [.ge (.wrap .i64 (.add (.c (.ofNat 9)) (.a 5))) 65, .is (.a 1) (.ofNat 9), .ge (.a 5) 0, .le (.a 5) 63, .at (.eq (.a 3) (.a 4)) true, .at (.eq (.a 3) (.a 0)) false, .at (.eq (.a 4) (.a 0)) false, .ge (.a 4) 0]) (ht : TabOK Try.prog val sl0 (tabW 9 false false false)) : Q val := leaf h ht (by kernel_rfl) (by kernel_rfl) (by kernel_rfl)
theorem d9_1001 {val : Nat → Int} (h : Holds val [.le (.wrap .i64 (.add (.c (.ofNat 9)) (.a 5))) 64, .is (.a 1) (.ofNat 9), .ge (.a 5) 0, .le (.a 5) 63, .at (.eq (.a 3) (.a 4)) true, .at (.eq (.a 3) (.a 0)) false, .at (.eq (.a 4) (.a 0)) false, .ge (.a 4) 0]) (ht : TabOK Try.prog val sl0 (tabW 9 false false true)) : Q val := leaf h ht (by kernel_rfl) (by kernel_rfl) (by kernel_rfl)
theorem d9_1110 {val : Nat → Int} (h : Holds val [.ge (.wrap .i64 (.add (.c (.ofNat 9)) (.a 5))) 65, .is (.a 1) (.ofNat 9), .ge (.a 5) 0, .le (.a 5) 63, .at (.eq (.a 3) (.a 4)) true, .at (.eq (.a 3) (.a 0)) true, .ge (.a 4) 0]) (ht : TabOK Try.prog val sl0 (tabW 9 true true false)) : Q val := leaf h ht (by kernel_rfl) (by kernel_rfl) (by kernel_rfl)
theorem d9_1111 {val : Nat → Int} (h : Holds val [.le (.wrap .i64 (.add (.c (.ofNat 9)) (.a 5))) 64, .is (.a 1) (.ofNat 9), .ge (.a 5) 0, .le (.a 5) 63, .at (.eq (.a 3) (.a 4)) true, .at (.eq (.a 3) (.a 0)) true, .ge (.a 4) 0]) (ht : TabOK Try.prog val sl0 (tabW 9 true true true)) : Q val := leaf h ht (by kernel_rfl) (by kernel_rfl) (by kernel_rfl)

theorem d9 : D 9 := by
  intro val e fb wb w h ht h1 h2 h3
  cases e <;> cases fb <;> cases wb <;> cases w
  · exact d9_0000 h ht
  · exact d9_0001 h ht
  · exact d9_0010 h ht
  · exact d9_0011 h ht
  · simp at h1 h2 h3
  · simp at h1 h2 h3
  · exact d9_0110 h ht
  · exact d9_0111 h ht
  · exact d9_1000 h ht
  · exact d9_1001 h ht
  · simp at h1 h2 h3
  · simp at h1 h2 h3
  · simp at h1 h2 h3
  · simp at h1 h2 h3
  · exact d9_1110 h ht
  · exact d9_1111 h ht

theorem d10_0000 {val : Nat → Int} (h : Holds val [.ge (.wrap .i64 (.add (.c (.ofNat 10)) (.a 5))) 65, .is (.a 1) (.ofNat 10), .ge (.a 5) 0, .le (.a 5) 63, .at (.eq (.a 3) (.a 4)) false, .at (.eq (.a 3) (.a 0)) false, .at (.eq (.a 4) (.a 0)) false, .ge (.a 4) 0, .is (.wrap .i64 (.sub (.a 4) (.a 3))) (.ofNat 1024)]) (ht : TabOK Try.prog val sl0 (tabW 10 false false false)) : Q val := leaf h ht (by kernel_rfl) (by kernel_rfl) (by kernel_rfl)
theorem d10_0001 {val : Nat → Int} (h : Holds val [.le (.wrap .i64 (.add (.c (.ofNat 10)) (.a 5))) 64, .is (.a 1) (.ofNat 10), .ge (.a 5) 0, .le (.a 5) 63, .at (.eq (.a 3) (.a 4)) false, .at (.eq (.a 3) (.a 0)) false, .at (.eq (.a 4) (.a 0)) false, .ge (.a 4) 0, .is (.wrap .i64 (.sub (.a 4) (.a 3))) (.ofNat 1024)]) (ht : TabOK Try.prog val sl0 (tabW 10 false false true)) : Q val := leaf h ht (by kernel_rfl) (by kernel_rfl) (by kernel_rfl)
theorem d10_0010 {val : Nat → Int} (h : Holds val [.ge (.wrap .i64 (.add (.c (.ofNat 10)) (.a 5))) 65, .is (.a 1) (.ofNat 10), .ge (.a 5) 0, .le (.a 5) 63, .at (.eq (.a 3) (.a 4)) false, .at (.eq (.a 3) (.a 0)) false, .at (.eq (.a 4) (.a 0)) true, .ge (.a 4) 0, .is (.wrap .i64 (.sub (.a 4) (.a 3))) (.ofNat 1024)]) (ht : TabOK Try.prog val sl0 (tabW 10 false true false)) : Q val := leaf h ht (by kernel_rfl) (by kernel_rfl) (by kernel_rfl)
theorem d10_0011 {val : Nat → Int} (h : Holds val [.le (.wrap .i64 (.add (.c (.ofNat 10)) (.a 5))) 64, .is (.a 1) (.ofNat 10), .ge (.a 5) 0, .le (.a 5) 63, .at (.eq (.a 3) (.a 4)) false, .at (.eq (.a 3) (.a 0)) false, .at (.eq (.a 4) (.a 0)) true, .ge (.a 4) 0, .is (.wrap .i64 (.sub (.a 4) (.a 3))) (.ofNat 1024)]) (ht : TabOK Try.prog val sl0 (tabW 10 false true true)) : Q val := leaf h ht (by kernel_rfl) (by kernel_rfl) (by kernel_rfl)
theorem d10_0110 {val : Nat → Int} (h : Holds val [.ge (.wrap .i64 (.add (.c (.ofNat 10)) (.a 5))) 65, .is (.a 1) (.ofNat 10), .ge (.a 5) 0, .le (.a 5) 63, .at (.eq (.a 3) (.a 4)) false, .at (.eq (.a 3) (.a 0)) true, .ge (.a 4) 0, .is (.wrap .i64 (.sub (.a 4) (.a 3))) (.ofNat 1024)]) (ht : TabOK Try.prog val sl0 (tabW 10 true true false)) : Q val := leaf h ht (by kernel_rfl) (by kernel_rfl) (by kernel_rfl)
theorem d10_0111 {val : Nat → Int} (h : Holds val [.le (.wrap .i64 (.add (.c (.ofNat 10)) (.a 5))) 64, .is (.a 1) (.ofNat 10), .ge (.a 5) 0, .le (.a 5) 63, .at (.eq (.a 3) (.a 4)) false, .at (.eq (.a 3) (.a 0)) true, .ge (.a 4) 0, .is (.wrap .i64 (.sub (.a 4) (.a 3))) (.ofNat 1024)]) (ht : TabOK Try.prog val sl0 (tabW 10 true true true)) : Q val := leaf h ht (by kernel_rfl) (by kernel_rfl) (by kernel_rfl)
theorem d10_1000 {val : Nat → Int} (h : Holds val [.ge (.wrap .i64 (.add (.c (.ofNat 10)) (.a 5))) 65, .is (.a 1) (.ofNat 10), .ge (.a 5) 0, .le (.a 5) 63, .at (.eq (.a 3) (.a 4)) true, .at (.eq (.a 3) (.a 0)) false, .at (.eq (.a 4) (.a 0)) false, .ge (.a 4) 0]) (ht : TabOK Try.prog val sl0 (tabW 10 false false false)) : Q val := leaf h ht (by kernel_rfl) (by kernel_rfl) (by kernel_rfl)
theorem d10_1001 {val : Nat → Int} (h : Holds val [.le (.wrap .i64 (.add (.c (.ofNat 10)) (.a 5))) 64, .is (.a 1) (.ofNat 10), .ge (.a 5) 0, .le (.a 5) 63, .at (.eq (.a 3) (.a 4)) true, .at (.eq (.a 3) (.a 0)) false, .at (.eq (.a 4) (.a 0)) false, .ge (.a 4) 0]) (ht : TabOK Try.prog val sl0 (tabW 10 false false true)) : Q val := leaf h ht (by kernel_rfl) (by kernel_rfl) (by kernel_rfl)
theorem d10_1110 {val : Nat → Int} (h : Holds val [.ge (.wrap .i64 (.add (.c (.ofNat 10)) (.a 5))) 65, .is (.a 1) (.ofNat 10), .ge (.a 5) 0, .le (.a 5) 63, .at (.eq (.a 3) (.a 4)) true, .at (.eq (.a 3) (.a 0)) true, .ge (.a 4) 0]) (ht : TabOK Try.prog val sl0 (tabW 10 true true false)) : Q val := leaf h ht (by kernel_rfl) (by kernel_rfl) (by kernel_rfl)
theorem d10_1111 {val : Nat → Int} (h : Holds val [.le (.wrap .i64 (.add (.c (.ofNat 10)) (.a 5))) 64, .is (.a 1) (.ofNat 10), .ge (.a 5) 0, .le (.a 5) 63, .at (.eq (.a 3) (.a 4)) true, .at (.eq (.a 3) (.a 0)) true, .ge (.a 4) 0]) (ht : TabOK Try.prog val sl0 (tabW 10 true true true)) : Q val := leaf h ht (by kernel_rfl) (by kernel_rfl) (by kernel_rfl)

theorem d10 : D 10 := by
  intro val e fb wb w h ht h1 h2 h3
  cases e <;> cases fb <;> cases wb <;> cases w
  · exact d10_0000 h ht
  · exact d10_0001 h ht
  · exact d10_0010 h ht
  · exact d10_0011 h ht
  · simp at h1 h2 h3
  · simp at h1 h2 h3
  · exact d10_0110 h ht
  · exact d10_0111 h ht
  · exact d10_1000 h ht
  · exact d10_1001 h ht
  · simp at h1 h2 h3
  · simp at h1 h2 h3
  · simp at h1 h2 h3
  · simp at h1 h2 h3
  · exact d10_1110 h ht
  · exact d10_1111 h ht

theorem d11_0000 {val : Nat → Int} (h : Holds val [.ge (.wrap .i64 (.add (.c (.ofNat 11)) (.a 5))) 65, .is (.a 1) (.ofNat 11), .ge (.a 5) 0, .le (.a 5) 63, .at (.eq (.a 3) (.a 4)) false, .at (.eq (.a 3) (.a 0)) false, .at (.eq (.a 4) (.a 0)) false, .ge (.a 4) 0, .is (.wrap .i64 (.sub (.a 4) (.a 3))) (.ofNat 2048)]) (ht : TabOK Try.prog val sl0 (tabW 11 false false false)) : Q val := leaf h ht (by kernel_rfl) (by kernel_rfl) (by kernel_rfl)
theorem d11_0001 {val : Nat → Int} (h : Holds val [.le (.wrap .i64 (.add (.c (.ofNat 11)) (.a 5))) 64, .is (.a 1) (.ofNat 11), .ge (.a 5) 0, .le (.a 5) 63, .at (.eq (.a 3) (.a 4)) false, .at (.eq (.a 3) (.a 0)) false, .at (.eq (.a 4) (.a 0)) false, .ge (.a 4) 0, .is (.wrap .i64 (.sub (.a 4) (.a 3))) (.ofNat 2048)]) (ht : TabOK Try.prog val sl0 (tabW 11 false false true)) : Q val := leaf h ht (by kernel_rfl) (by kernel_rfl) (by kernel_rfl)
theorem d11_0010 {val : Nat → Int} (h : Holds val [.ge (.wrap .i64 (.add (.c (.ofNat 11)) (.a 5))) 65, .is (.a 1) (.ofNat 11), .ge (.a 5) 0, .le (.a 5) 63, .at (.eq (.a 3) (.a 4)) false, .at (.eq (.a 3) (.a 0)) false, .at (.eq (.a 4) (.a 0)) true, .ge (.a 4) 0, .is (.wrap .i64 (.sub (.a 4) (.a 3))) (.ofNat 2048)]) (ht : TabOK Try.prog val sl0 (tabW 11 false true false)) : Q val := leaf h ht (by kernel_rfl) (by kernel_rfl) (by kernel_rfl)
theorem d11_0011 {val : Nat → Int} (h : Holds val [.le (.wrap .i64 (.add (.c (.ofNat 11)) (.a 5))) 64, .is (.a 1) (.ofNat 11), .ge (.a 5) 0, .le (.a 5) 63, .at (.eq (.a 3) (.a 4)) false, .at (.eq (.a 3) (.a 0)) false, .at (.eq (.a 4) (.a 0)) true, .ge (.a 4) 0, .is (.wrap .i64 (.sub (.a 4) (.a 3))) (.ofNat 2048)]) (ht : TabOK Try.prog val sl0 (tabW 11 false true true)) : Q val := leaf h ht (by kernel_rfl) (by kernel_rfl) (by kernel_rfl)
theorem d11_0110 {val : Nat → Int} (h : Holds val [.ge (.wrap .i64 (.add (.c (.ofNat 11)) (.a 5))) 65, .is (.a 1) (.ofNat 11), .ge (.a 5) 0, .le (.a 5) 63, .at (.eq (.a 3) (.a 4)) false, .at (.eq (.a 3) (.a 0)) true, .ge (.a 4) 0, .is (.wrap .i64 (.sub (.a 4) (.a 3))) (.ofNat 2048)]) (ht : TabOK Try.prog val sl0 (tabW 11 true true false)) : Q val := leaf h ht (by kernel_rfl) (by kernel_rfl) (by kernel_rfl)
theorem d11_0111 {val : Nat → Int} (h : Holds val [.le (.wrap .i64 (.add (.c (.ofNat 11)) (.a 5))) 64, .is (.a 1) (.ofNat 11), .ge (.a 5) 0, .le (.a 5) 63, .at (.eq (.a 3) (.a 4)) false, .at (.eq (.a 3) (.a 0)) true, .ge (.a 4) 0, .is (.wrap .i64 (.sub (.a 4) (.a 3))) (.ofNat 2048)]) (ht : TabOK Try.prog val sl0 (tabW 11 true true true)) : Q val := leaf h ht (by kernel_rfl) (by kernel_rfl) (by kernel_rfl)
theorem d11_1000 {val : Nat → Int} (h : Holds val [.ge (.wrap .i64 (.add (.c (.ofNat 11)) (.a 5))) 65, .is (.a 1) (.ofNat 11), .ge (.a 5) 0, .le (.a 5) 63, .at (.eq (.a 3) (.a 4)) true, .at (.eq (.a 3) (.a 0)) false, .at (.eq (.a 4) (.a 0)) false, .ge (.a 4) 0]) (ht : TabOK Try.prog val sl0 (tabW 11 false false false)) : Q val := leaf h ht (by kernel_rfl) (by kernel_rfl) (by kernel_rfl)
theorem d11_1001 {val : Nat → Int} (h : Holds val [.le (.wrap .i64 (.add (.c (.ofNat 11)) (.a 5))) 64, .is (.a 1) (.ofNat 11), .ge (.a 5) 0, .le (.a 5) 63, .at (.eq (.a 3) (.a 4)) true, .at (.eq (.a 3) (.a 0)) false, .at (.eq (.a 4) (.a 0)) false, .ge (.a 4) 0]) (ht : TabOK Try.prog val sl0 (tabW 11 false false true)) : Q val := leaf h ht (by kernel_rfl) (by kernel_rfl) (by kernel_rfl)
theorem d11_1110 {val : Nat → Int} (h : Holds val [.ge (.wrap .i64 (.add (.c (.ofNat 11)) (.a 5))) 65, .is (.a 1) (.ofNat 11), .ge (.a 5) 0, .le (.a 5) 63, .at (.eq (.a 3) (.a 4)) true, .at (.eq (.a 3) (.a 0)) true, .ge (.a 4) 0]) (ht : TabOK Try.prog val sl0 (tabW 11 true true false)) : Q val := leaf h ht (by kernel_rfl) (by kernel_rfl) (by kernel_rfl)
theorem d11_1111 {val : Nat → Int} (h : Holds val [.le (.wrap .i64 (.add (.c (.ofNat 11)) (.a 5))) 64, .is (.a 1) (.ofNat 11), .ge (.a 5) 0, .le (.a 5) 63, .at (.eq (.a 3) (.a 4)) true, .at (.eq (.a 3) (.a 0)) true, .ge (.a 4) 0]) (ht : TabOK Try.prog val sl0 (tabW 11 true true true)) : Q val := leaf h ht (by kernel_rfl) (by kernel_rfl) (by kernel_rfl)

theorem d11 : D 11 := by
  intro val e fb wb w h ht h1 h2 h3
  cases e <;> cases fb <;> cases wb <;> cases w
  · exact d11_0000 h ht
  · exact d11_0001 h ht
  · exact d11_0010 h ht
  · exact d11_0011 h ht
  · simp at h1 h2 h3
  · simp at h1 h2 h3
  · exact d11_0110 h ht
  · exact d11_0111 h ht
  · exact d11_1000 h ht
  · exact d11_1001 h ht
  · simp at h1 h2 h3
  · simp at h1 h2 h3
  · simp at h1 h2 h3
  · simp at h1 h2 h3
  · exact d11_1110 h ht
  · exact d11_1111 h ht

theorem d12_0000 {val : Nat → Int} (h : Holds val [.ge (.wrap .i64 (.add (.c (.ofNat 12)) (.a 5))) 65, .is (.a 1) (.ofNat 12), .ge (.a 5) 0, .le (.a 5) 63, .at (.eq (.a 3) (.a 4)) false, .at (.eq (.a 3) (.a 0)) false, .at (.eq (.a 4) (.a 0)) false, .ge (.a 4) 0, .is (.wrap .i64 (.sub (.a 4) (.a 3))) (.ofNat 4096)]) (ht : TabOK Try.prog val sl0 (tabW 12 false false false)) : Q val := leaf h ht (by kernel_rfl) (by kernel_rfl) (by kernel_rfl)
theorem d12_0001 {val : Nat → Int} (h : Holds val [.le (.wrap .i64 (.add (.c (.ofNat 12)) (.a 5))) 64, .is (.a 1) (.ofNat 12), .ge (.a 5) 0, .le (.a 5) 63, .at (.eq (.a 3) (.a 4)) false, .at (.eq (.a 3) (.a 0)) false, .at (.eq (.a 4) (.a 0)) false, .ge (.a 4) 0, .is (.wrap .i64 (.sub (.a 4) (.a 3))) (.ofNat 4096)]) (ht : TabOK Try.prog val sl0 (tabW 12 false false true)) : Q val := leaf h ht (by kernel_rfl) (by kernel_rfl) (by kernel_rfl)
theorem d12_0010 {val : Nat → Int} (h : Holds val [.ge (.wrap .i64 (.add (.c (.ofNat 12)) (.a 5))) 65, .is (.a 1) (.ofNat 12), .ge (.a 5) 0, .le (.a 5) 63, .at (.eq (.a 3) (.a 4)) false, .at (.eq (.a 3) (.a 0)) false, .at (.eq (.a 4) (.a 0)) true, .ge (.a 4) 0, .is (.wrap .i64 (.sub (.a 4) (.a 3))) (.ofNat 4096)]) (ht : TabOK Try.prog val sl0 (tabW 12 false true false)) : Q val := leaf h ht (by kernel_rfl) (by kernel_rfl) (by kernel_rfl)
theorem d12_0011 {val : Nat → Int} (h : Holds val [.le (.wrap .i64 (.add (.c (.ofNat 12)) (.a 5))) 64, .is (.a 1) (.ofNat 12), .ge (.a 5) 0, .le (.a 5) 63, .at (.eq (.a 3) (.a 4)) false, .at (.eq (.a 3) (.a 0)) false, .at (.eq (.a 4) (.a 0)) true, .ge (.a 4) 0, .is (.wrap .i64 (.sub (.a 4) (.a 3))) (.ofNat 4096)]) (ht : TabOK Try.prog val sl0 (tabW 12 false true true)) : Q val := leaf h ht (by kernel_rfl) (by kernel_rfl) (by kernel_rfl)
theorem d12_0110 {val : Nat → Int} (h : Holds val [.ge (.wrap .i64 (.add (.c (.ofNat 12)) (.a 5))) 65, .is (.a 1) (.ofNat 12), .ge (.a 5) 0, .le (.a 5) 63, .at (.eq (.a 3) (.a 4)) false, .at (.eq (.a 3) (.a 0)) true, .ge (.a 4) 0, .is (.wrap .i64 (.sub (.a 4) (.a 3))) (.ofNat 4096)]) (ht : TabOK Try.prog val sl0 (tabW 12 true true false)) : Q val := leaf h ht (by kernel_rfl) (by kernel_rfl) (by kernel_rfl)
theorem d12_0111 {val : Nat → Int} (h : Holds val [.le (.wrap .i64 (.add (.c (.ofNat 12)) (.a 5))) 64, .is (.a 1) (.ofNat 12), .ge (.a 5) 0, .le (.a 5) 63, .at (.eq (.a 3) (.a 4)) false, .at (.eq (.a 3) (.a 0)) true, .ge (.a 4) 0, .is (.wrap .i64 (.sub (.a 4) (.a 3))) (.ofNat 4096)]) (ht : TabOK Try.prog val sl0 (tabW 12 true true true)) : Q val := leaf h ht (by kernel_rfl) (by kernel_rfl) (by kernel_rfl)
theorem d12_1000 {val : Nat → Int} (h : Holds val [.ge (.wrap .i64 (.add (.c (.ofNat 12)) (.a 5))) 65, .is (.a 1) (.ofNat 12), .ge (.a 5) 0, .le (.a 5) 63, .at (.eq (.a 3) (.a 4)) true, .at (.eq (.a 3) (.a 0)) false, .at (.eq (.a 4) (.a 0)) false, .ge (.a 4) 0]) (ht : TabOK Try.prog val sl0 (tabW 12 false false false)) : Q val := leaf h ht (by kernel_rfl) (by kernel_rfl) (by kernel_rfl)
theorem d12_1001 {val : Nat → Int} (h : Holds val [.le (.wrap .i64 (.add (.c (.ofNat 12)) (.a 5))) 64, .is (.a 1) (.ofNat 12), .ge (.a 5) 0, .le (.a 5) 63, .at (.eq (.a 3) (.a 4)) true, .at (.eq (.a 3) (.a 0)) false, .at (.eq (.a 4) (.a 0)) false, .ge (.a 4) 0]) (ht : TabOK Try.prog val sl0 (tabW 12 false false true)) : Q val := leaf h ht (by kernel_rfl) (by kernel_rfl) (by kernel_rfl)
theorem d12_1110 {val : Nat → Int} (h : Holds val [.ge (.wrap .i64 (.add (.c (.ofNat 12)) (.a 5))) 65, .is (.a 1) (.ofNat 12), .ge (.a 5) 0, .le (.a 5) 63, .at (.eq (.a 3) (.a 4)) true, .at (.eq (.a 3) (.a 0)) true, .ge (.a 4) 0]) (ht : TabOK Try.prog val sl0 (tabW 12 true true false)) : Q val := leaf h ht (by kernel_rfl) (by kernel_rfl) (by kernel_rfl)
theorem d12_1111 {val : Nat → Int} (h : Holds val [.le (.wrap .i64 (.add (.c (.ofNat 12)) (.a 5))) 64, .is (.a 1) (.ofNat 12), .ge (.a 5) 0, .le (.a 5) 63, .at (.eq (.a 3) (.a 4)) true, .at (.eq (.a 3) (.a 0)) true, .ge (.a 4) 0]) (ht : TabOK Try.prog val sl0 (tabW 12 true true true)) : Q val := leaf h ht (by kernel_rfl) (by kernel_rfl) (by kernel_rfl)

theorem d12 : D 12 := by
  intro val e fb wb w h ht h1 h2 h3
  cases e <;> cases fb <;> cases wb <;> cases w
  · exact d12_0000 h ht
  · exact d12_0001 h ht
  · exact d12_0010 h ht
  · exact d12_0011 h ht
  · simp at h1 h2 h3
  · simp at h1 h2 h3
  · exact d12_0110 h ht
  · exact d12_0111 h ht
  · exact d12_1000 h ht
  · exact d12_1001 h ht
  · simp at h1 h2 h3
  · simp at h1 h2 h3
  · simp at h1 h2 h3
  · simp at h1 h2 h3
  · exact d12_1110 h ht
  · exact d12_1111 h ht

theorem d13_0000 {val : Nat → Int} (h : Holds val [.ge (.wrap .i64 (.add (.c (.ofNat 13)) (.a 5))) 65, .is (.a 1) (.ofNat 13), .ge (.a 5) 0, .le (.a 5) 63, .at (.eq (.a 3) (.a 4)) false, .at (.eq (.a 3) (.a 0)) false, .at (.eq (.a 4) (.a 0)) false, .ge (.a 4) 0, .is (.wrap .i64 (.sub (.a 4) (.a 3))) (.ofNat 8192)]) (ht : TabOK Try.prog val sl0 (tabW 13 false false false)) : Q val := leaf h ht (by kernel_rfl) (by kernel_rfl) (by kernel_rfl)
theorem d13_0001 {val : Nat → Int} (h : Holds val [.le (.wrap .i64 (.add (.c (.ofNat 13)) (.a 5))) 64, .is (.a 1) (.ofNat 13), .ge (.a 5) 0, .le (.a 5) 63, .at (.eq (.a 3) (.a 4)) false, .at (.eq (.a 3) (.a 0)) false, .at (.eq (.a 4) (.a 0)) false, .ge (.a 4) 0, .is (.wrap .i64 (.sub (.a 4) (.a 3))) (.ofNat 8192)]) (ht : TabOK Try.prog val sl0 (tabW 13 false false true)) : Q val := leaf h ht (by kernel_rfl) (by kernel_rfl) (by kernel_rfl)
theorem d13_0010 {val : Nat → Int} (h : Holds val [.ge (.wrap .i64 (.add (.c (.ofNat 13)) (.a 5))) 65, .is (.a 1) (.ofNat 13), .ge (.a 5) 0, .le (.a 5) 63, .at (.eq (.a 3) (.a 4)) false, .at (.eq (.a 3) (.a 0)) false, .at (.eq (.a 4) (.a 0)) true, .ge (.a 4) 0, .is (.wrap .i64 (.sub (.a 4) (.a 3))) (.ofNat 8192)]) (ht : TabOK Try.prog val sl0 (tabW 13 false true false)) : Q val := leaf h ht (by kernel_rfl) (by kernel_rfl) (by kernel_rfl)
theorem d13_0011 {val : Nat → Int} (h : Holds val [.le (.wrap .i64 (.add (.c (.ofNat 13)) (.a 5))) 64, .is (.a 1) (.ofNat 13), .ge (.a 5) 0, .le (.a 5) 63, .at (.eq (.a 3) (.a 4)) false, .at (.eq (.a 3) (.a 0)) false, .at (.eq (.a 4) (.a 0)) true, .ge (.a 4) 0, .is (.wrap .i64 (.sub (.a 4) (.a 3))) (.ofNat 8192)]) (ht : TabOK Try.prog val sl0 (tabW 13 false true true)) : Q val := leaf h ht (by kernel_rfl) (by kernel_rfl) (by kernel_rfl)
theorem d13_0110 {val : Nat → Int} (h : Holds val [.ge (.wrap .i64 (.add (.c (.ofNat 13)) (.a 5))) 65, .is (.a 1) (.ofNat 13), .ge (.a 5) 0, .le (.a 5) 63, .at (.eq (.a 3) (.a 4)) false, .at (.eq (.a 3) (.a 0)) true, .ge (.a 4) 0, .is (.wrap .i64 (.sub (.a 4) (.a 3))) (.ofNat 8192)]) (ht : TabOK Try.prog val sl0 (tabW 13 true true false)) : Q val := leaf h ht (by kernel_rfl) (by kernel_rfl) (by kernel_rfl)
theorem d13_0111 {val : Nat → Int} (h : Holds val [.le (.wrap .i64 (.add (.c (.ofNat 13)) (.a 5))) 64, .is (.a 1) (.ofNat 13), .ge (.a 5) 0, .le (.a 5) 63, .at (.eq (.a 3) (.a 4)) false, .at (.eq (.a 3) (.a 0)) true, .ge (.a 4) 0, .is (.wrap .i64 (.sub (.a 4) (.a 3))) (.ofNat 8192)]) (ht : TabOK Try.prog val sl0 (tabW 13 true true true)) : Q val := leaf h ht (by kernel_rfl) (by kernel_rfl) (by kernel_rfl)
theorem d13_1000 {val : Nat → Int} (h : Holds val [.ge (.wrap .i64 (.add (.c (.ofNat 13)) (.a 5))) 65, .is (.a 1) (.ofNat 13), .ge (.a 5) 0, .le (.a 5) 63, .at (.eq (.a 3) (.a 4)) true, .at (.eq (.a 3) (.a 0)) false, .at (.eq (.a 4) (.a 0)) false, .ge (.a 4) 0]) (ht : TabOK Try.prog val sl0 (tabW 13 false false false)) : Q val := leaf h ht (by kernel_rfl) (by kernel_rfl) (by kernel_rfl)
theorem d13_1001 {val : Nat → Int} (h : Holds val [.le (.wrap .i64 (.add (.c (.ofNat 13)) (.a 5))) 64, .is (.a 1) (.ofNat 13), .ge (.a 5) 0, .le (.a 5) 63, .at (.eq (.a 3) (.a 4)) true, .at (.eq (.a 3) (.a 0)) false, .at (.eq (.a 4) (.a 0)) false, .ge (.a 4) 0]) (ht : TabOK Try.prog val sl0 (tabW 13 false false true)) : Q val := leaf h ht (by kernel_rfl) (by kernel_rfl) (by kernel_rfl)
theorem d13_1110 {val : Nat → Int} (h : Holds val [.ge (.wrap .i64 (.add (.c (.ofNat 13)) (.a 5))) 65, .is (.a 1) (.ofNat 13), .ge (.a 5) 0, .le (.a 5) 63, .at (.eq (.a 3) (.a 4)) true, .at (.eq (.a 3) (.a 0)) true, .ge (.a 4) 0]) (ht : TabOK Try.prog val sl0 (tabW 13 true true false)) : Q val := leaf h ht (by kernel_rfl) (by kernel_rfl) (by kernel_rfl)
theorem d13_1111 {val : Nat → Int} (h : Holds val [.le (.wrap .i64 (.add (.c (.ofNat 13)) (.a 5))) 64, .is (.a 1) (.ofNat 13), .ge (.a 5) 0, .le (.a 5) 63, .at (.eq (.a 3) (.a 4)) true, .at (.eq (.a 3) (.a 0)) true, .ge (.a 4) 0]) (ht : TabOK Try.prog val sl0 (tabW 13 true true true)) : Q val := leaf h ht (by kernel_rfl) (by kernel_rfl) (by kernel_rfl)

theorem d13 : D 13 := by
  intro val e fb wb w h ht h1 h2 h3
  cases e <;> cases fb <;> cases wb <;> cases w
  · exact d13_0000 h ht
  · exact d13_0001 h ht
  · exact d13_0010 h ht
  · exact d13_0011 h ht
  · simp at h1 h2 h3
  · simp at h1 h2 h3
  · exact d13_0110 h ht
  · exact d13_0111 h ht
  · exact d13_1000 h ht
  · exact d13_1001 h ht
  · simp at h1 h2 h3
  · simp at h1 h2 h3
  · simp at h1 h2 h3
  · simp at h1 h2 h3
  · exact d13_1110 h ht
  · exact d13_1111 h ht

theorem d14_0000 {val : Nat → Int} (h : Holds val [.ge (.wrap .i64 (.add (.c (.ofNat 14)) (.a 5))) 65, .is (.a 1) (.ofNat 14), .ge (.a 5) 0, .le (.a 5) 63, .at (.eq (.a 3) (.a 4)) false, .at (.eq (.a 3) (.a 0)) false, .at (.eq (.a 4) (.a 0)) false, .ge (.a 4) 0, .is (.wrap .i64 (.sub (.a 4) (.a 3))) (.ofNat 16384)]) (ht : TabOK Try.prog val sl0 (tabW 14 false false false)) : Q val := leaf h ht (by kernel_rfl) (by kernel_rfl) (by kernel_rfl)
theorem d14_0001 {val : Nat → Int} (h : Holds val [.le (.wrap .i64 (.add (.c (.ofNat 14)) (.a 5))) 64, .is (.a 1) (.ofNat 14), .ge (.a 5) 0, .le (.a 5) 63, .at (.eq (.a 3) (.a 4)) false, .at (.eq (.a 3) (.a 0)) false, .at (.eq (.a 4) (.a 0)) false, .ge (.a 4) 0, .is (.wrap .i64 (.sub (.a 4) (.a 3))) (.ofNat 16384)]) (ht : TabOK Try.prog val sl0 (tabW 14 false false true)) : Q val := leaf h ht (by kernel_rfl) (by kernel_rfl) (by kernel_rfl)
theorem d14_0010 {val : Nat → Int} (h : Holds val [.ge (.wrap .i64 (.add (.c (.ofNat 14)) (.a 5))) 65, .is (.a 1) (.ofNat 14), .ge (.a 5) 0, .le (.a 5) 63, .at (.eq (.a 3) (.a 4)) false, .at (.eq (.a 3) (.a 0)) false, .at (.eq (.a 4) (.a 0)) true, .ge (.a 4) 0, .is (.wrap .i64 (.sub (.a 4) (.a 3))) (.ofNat 16384)]) (ht : TabOK Try.prog val sl0 (tabW 14 false true false)) : Q val := leaf h ht (by kernel_rfl) (by kernel_rfl) (by kernel_rfl)
theorem d14_0011 {val : Nat → Int} (h : Holds val [.le (.wrap .i64 (.add (.c (.ofNat 14)) (.a 5))) 64, .is (.a 1) (.ofNat 14), .ge (.a 5) 0, .le (.a 5) 63, .at (.eq (.a 3) (.a 4)) false, .at (.eq (.a 3) (.a 0)) false, .at (.eq (.a 4) (.a 0)) true, .ge (.a 4) 0, .is (.wrap .i64 (.sub (.a 4) (.a 3))) (.ofNat 16384)]) (ht : TabOK Try.prog val sl0 (tabW 14 false true true)) : Q val := leaf h ht (by kernel_rfl) (by kernel_rfl) (by kernel_rfl)
theorem d14_0110 {val : Nat → Int} (h : Holds val [.ge (.wrap .i64 (.add (.c (.ofNat 14)) (.a 5))) 65, .is (.a 1) (.ofNat 14), .ge (.a 5) 0, .le (.a 5) 63, .at (.eq (.a 3) (.a 4)) false, .at (.eq (.a 3) (.a 0)) true, .ge (.a 4) 0, .is (.wrap .i64 (.sub (.a 4) (.a 3))) (.ofNat 16384)]) (ht : TabOK Try.prog val sl0 (tabW 14 true true false)) : Q val := leaf h ht (by kernel_rfl) (by kernel_rfl) (by kernel_rfl)
theorem d14_0111 {val : Nat → Int} (h : Holds val [.le (.wrap .i64 (.add (.c (.ofNat 14)) (.a 5))) 64, .is (.a 1) (.ofNat 14), .ge (.a 5) 0, .le (.a 5) 63, .at (.eq (.a 3) (.a 4)) false, .at (.eq (.a 3) (.a 0)) true, .ge (.a 4) 0, .is (.wrap .i64 (.sub (.a 4) (.a 3))) (.ofNat 16384)]) (ht : TabOK Try.prog val sl0 (tabW 14 true true true)) : Q val := leaf h ht (by kernel_rfl) (by kernel_rfl) (by kernel_rfl)
theorem d14_1000 {val : Nat → Int} (h : Holds val [.ge (.wrap .i64 (.add (.c (.ofNat 14)) (.a 5))) 65, .is (.a 1) (.ofNat 14), .ge (.a 5) 0, .le (.a 5) 63, .at (.eq (.a 3) (.a 4)) true, .at (.eq (.a 3) (.a 0)) false, .at (.eq (.a 4) (.a 0)) false, .ge (.a 4) 0]) (ht : TabOK Try.prog val sl0 (tabW 14 false false false)) : Q val := leaf h ht (by kernel_rfl) (by kernel_rfl) (by kernel_rfl)
theorem d14_1001 {val : Nat → Int} (h : Holds val [.le (.wrap .i64 (.add (.c (.ofNat 14)) (.a 5))) 64, .is (.a 1) (.ofNat 14), .ge (.a 5) 0, .le (.a 5) 63, .at (.eq (.a 3) (.a 4)) true, .at (.eq (.a 3) (.a 0)) false, .at (.eq (.a 4) (.a 0)) false, .ge (.a 4) 0]) (ht : TabOK Try.prog val sl0 (tabW 14 false false true)) : Q val := leaf h ht (by kernel_rfl) (by kernel_rfl) (by kernel_rfl)
theorem d14_1110 {val : Nat → Int} (h : Holds val [.ge (.wrap .i64 (.add (.c (.ofNat 14)) (.a 5))) 65, .is (.a 1) (.ofNat 14), .ge (.a 5) 0, .le (.a 5) 63, .at (.eq (.a 3) (.a 4)) true, .at (.eq (.a 3) (.a 0)) true, .ge (.a 4) 0]) (ht : TabOK Try.prog val sl0 (tabW 14 true true false)) : Q val := leaf h ht (by kernel_rfl) (by kernel_rfl) (by kernel_rfl)
theorem d14_1111 {val : Nat → Int} (h : Holds val [.le (.wrap .i64 (.add (.c (.ofNat 14)) (.a 5))) 64, .is (.a 1) (.ofNat 14), .ge (.a 5) 0, .le (.a 5) 63, .at (.eq (.a 3) (.a 4)) true, .at (.eq (.a 3) (.a 0)) true, .ge (.a 4) 0]) (ht : TabOK Try.prog val sl0 (tabW 14 true true true)) : Q val := leaf h ht (by kernel_rfl) (by kernel_rfl) (by kernel_rfl)

theorem d14 : D 14 := by
  intro val e fb wb w h ht h1 h2 h3
  cases e <;> cases fb <;> cases wb <;> cases w
  · exact d14_0000 h ht
  · exact d14_0001 h ht
  · exact d14_0010 h ht
  · exact d14_0011 h ht
  · simp at h1 h2 h3
  · simp at h1 h2 h3
  · exact d14_0110 h ht
  · exact d14_0111 h ht
  · exact d14_1000 h ht
  · exact d14_1001 h ht
  · simp at h1 h2 h3
  · simp at h1 h2 h3
  · simp at h1 h2 h3
  · simp at h1 h2 h3
  · exact d14_1110 h ht
  · exact d14_1111 h ht

theorem d15_0000 {val : Nat → Int} (h : Holds val [.ge (.wrap .i64 (.add (.c (.ofNat 15)) (.a 5))) 65, .is (.a 1) (.ofNat 15), .ge (.a 5) 0, .le (.a 5) 63, .at (.eq (.a 3) (.a 4)) false, .at (.eq (.a 3) (.a 0)) false, .at (.eq (.a 4) (.a 0)) false, .ge (.a 4) 0, .is (.wrap .i64 (.sub (.a 4) (.a 3))) (.ofNat 32768)]) (ht : TabOK Try.prog val sl0 (tabW 15 false false false)) : Q val := leaf h ht (by kernel_rfl) (by kernel_rfl) (by kernel_rfl)
theorem d15_0001 {val : Nat → Int} (h : Holds val [.le (.wrap .i64 (.add (.c (.ofNat 15)) (.a 5))) 64, .is (.a 1) (.ofNat 15), .ge (.a 5) 0, .le (.a 5) 63, .at (.eq (.a 3) (.a 4)) false, .at (.eq (.a 3) (.a 0)) false, .at (.eq (.a 4) (.a 0)) false, .ge (.a 4) 0, .is (.wrap .i64 (.sub (.a 4) (.a 3))) (.ofNat 32768)]) (ht : TabOK Try.prog val sl0 (tabW 15 false false true)) : Q val := leaf h ht (by kernel_rfl) (by kernel_rfl) (by kernel_rfl)
theorem d15_0010 {val : Nat → Int} (h : Holds val [.ge (.wrap .i64 (.add (.c (.ofNat 15)) (.a 5))) 65, .is (.a 1) (.ofNat 15), .ge (.a 5) 0, .le (.a 5) 63, .at (.eq (.a 3) (.a 4)) false, .at (.eq (.a 3) (.a 0)) false, .at (.eq (.a 4) (.a 0)) true, .ge (.a 4) 0, .is (.wrap .i64 (.sub (.a 4) (.a 3))) (.ofNat 32768)]) (ht : TabOK Try.prog val sl0 (tabW 15 false true false)) : Q val := leaf h ht (by kernel_rfl) (by kernel_rfl) (by kernel_rfl)
theorem d15_0011 {val : Nat → Int} (h : Holds val [.le (.wrap .i64 (.add (.c (.ofNat 15)) (.a 5))) 64, .is (.a 1) (.ofNat 15), .ge (.a 5) 0, .le (.a 5) 63, .at (.eq (.a 3) (.a 4)) false, .at (.eq (.a 3) (.a 0)) false, .at (.eq (.a 4) (.a 0)) true, .ge (.a 4) 0, .is (.wrap .i64 (.sub (.a 4) (.a 3))) (.ofNat 32768)]) (ht : TabOK Try.prog val sl0 (tabW 15 false true true)) : Q val := leaf h ht (by kernel_rfl) (by kernel_rfl) (by kernel_rfl)
theorem d15_0110 {val : Nat → Int} (h : Holds val [.ge (.wrap .i64 (.add (.c (.ofNat 15)) (.a 5))) 65, .is (.a 1) (.ofNat 15), .ge (.a 5) 0, .le (.a 5) 63, .at (.eq (.a 3) (.a 4)) false, .at (.eq (.a 3) (.a 0)) true, .ge (.a 4) 0, .is (.wrap .i64 (.sub (.a 4) (.a 3))) (.ofNat 32768)]) (ht : TabOK Try.prog val sl0 (tabW 15 true true false)) : Q val := leaf h ht (by kernel_rfl) (by kernel_rfl) (by kernel_rfl)
theorem d15_0111 {val : Nat → Int} (h : Holds val [.le (.wrap .i64 (.add (.c (.ofNat 15)) (.a 5))) 64, .is (.a 1) (.ofNat 15), .ge (.a 5) 0, .le (.a 5) 63, .at (.eq (.a 3) (.a 4)) false, .at (.eq (.a 3) (.a 0)) true, .ge (.a 4) 0, .is (.wrap .i64 (.sub (.a 4) (.a 3))) (.ofNat 32768)]) (ht : TabOK Try.prog val sl0 (tabW 15 true true true)) : Q val := leaf h ht (by kernel_rfl) (by kernel_rfl) (by kernel_rfl)
theorem d15_1000 {val : Nat → Int} (h : Holds val [.ge (.wrap .i64 (.add (.c (.ofNat 15)) (.a 5))) 65, .is (.a 1) (.ofNat 15), .ge (.a 5) 0, .le (.a 5) 63, .at (.eq (.a 3) (.a 4)) true, .at (.eq (.a 3) (.a 0)) false, .at (.eq (.a 4) (.a 0)) false, .ge (.a 4) 0]) (ht : TabOK Try.prog val sl0 (tabW 15 false false false)) : Q val := leaf h ht (by kernel_rfl) (by kernel_rfl) (by kernel_rfl)
theorem d15_1001 {val : Nat → Int} (h : Holds val [.le (.wrap .i64 (.add (.c (.ofNat 15)) (.a 5))) 64, .is (.a 1) (.ofNat 15), .ge (.a 5) 0, .le (.a 5) 63, .at (.eq (.a 3) (.a 4)) true, .at (.eq (.a 3) (.a 0)) false, .at (.eq (.a 4) (.a 0)) false, .ge (.a 4) 0]) (ht : TabOK Try.prog val sl0 (tabW 15 false false true)) : Q val := leaf h ht (by kernel_rfl) (by kernel_rfl) (by kernel_rfl)
theorem d15_1110 {val : Nat → Int} (h : Holds val [.ge (.wrap .i64 (.add (.c (.ofNat 15)) (.a 5))) 65, .is (.a 1) (.ofNat 15), .ge (.a 5) 0, .le (.a 5) 63, .at (.eq (.a 3) (.a 4)) true, .at (.eq (.a 3) (.a 0)) true, .ge (.a 4) 0]) (ht : TabOK Try.prog val sl0 (tabW 15 true true false)) : Q val := leaf h ht (by kernel_rfl) (by kernel_rfl) (by kernel_rfl)
theorem d15_1111 {val : Nat → Int} (h : Holds val [.le (.wrap .i64 (.add (.c (.ofNat 15)) (.a 5))) 64, .is (.a 1) (.ofNat 15), .ge (.a 5) 0, .le (.a 5) 63, .at (.eq (.a 3) (.a 4)) true, .at (.eq (.a 3) (.a 0)) true, .ge (.a 4) 0]) (ht : TabOK Try.prog val sl0 (tabW 15 true true true)) : Q val := leaf h ht (by kernel_rfl) (by kernel_rfl) (by kernel_rfl)

theorem d15 : D 15 := by
  intro val e fb wb w h ht h1 h2 h3
  cases e <;> cases fb <;> cases wb <;> cases w
  · exact d15_0000 h ht
  · exact d15_0001 h ht
  · exact d15_0010 h ht
  · exact d15_0011 h ht
  · simp at h1 h2 h3
  · simp at h1 h2 h3
  · exact d15_0110 h ht
  · exact d15_0111 h ht
  · exact d15_1000 h ht
  · exact d15_1001 h ht
  · simp at h1 h2 h3
  · simp at h1 h2 h3
  · simp at h1 h2 h3
  · simp at h1 h2 h3
  · exact d15_1110 h ht
  · exact d15_1111 h ht

theorem d16_0000 {val : Nat → Int} (h : Holds val [.ge (.wrap .i64 (.add (.c (.ofNat 16)) (.a 5))) 65, .is (.a 1) (.ofNat 16), .ge (.a 5) 0, .le (.a 5) 63, .at (.eq (.a 3) (.a 4)) false, .at (.eq (.a 3) (.a 0)) false, .at (.eq (.a 4) (.a 0)) false, .ge (.a 4) 0, .is (.wrap .i64 (.sub (.a 4) (.a 3))) (.ofNat 65536)]) (ht : TabOK Try.prog val sl0 (tabW 16 false false false)) : Q val := leaf h ht (by kernel_rfl) (by kernel_rfl) (by kernel_rfl)
theorem d16_0001 {val : Nat → Int} (h : Holds val [.le (.wrap .i64 (.add (.c (.ofNat 16)) (.a 5))) 64, .is (.a 1) (.ofNat 16), .ge (.a 5) 0, .le (.a 5) 63, .at (.eq (.a 3) (.a 4)) false, .at (.eq (.a 3) (.a 0)) false, .at (.eq (.a 4) (.a 0)) false, .ge (.a 4) 0, .is (.wrap .i64 (.sub (.a 4) (.a 3))) (.ofNat 65536)]) (ht : TabOK Try.prog val sl0 (tabW 16 false false true)) : Q val := leaf h ht (by kernel_rfl) (by kernel_rfl) (by kernel_rfl)
theorem d16_0010 {val : Nat → Int} (h : Holds val [.ge (.wrap .i64 (.add (.c (.ofNat 16)) (.a 5))) 65, .is (.a 1) (.ofNat 16), .ge (.a 5) 0, .le (.a 5) 63, .at (.eq (.a 3) (.a 4)) false, .at (.eq (.a 3) (.a 0)) false, .at (.eq (.a 4) (.a 0)) true, .ge (.a 4) 0, .is (.wrap .i64 (.sub (.a 4) (.a 3))) (.ofNat 65536)]) (ht : TabOK Try.prog val sl0 (tabW 16 false true false)) : Q val := leaf h ht (by kernel_rfl) (by kernel_rfl) (by kernel_rfl)
theorem d16_0011 {val : Nat → Int} (h : Holds val [.le (.wrap .i64 (.add (.c (.ofNat 16)) (.a 5))) 64, .is (.a 1) (.ofNat 16), .ge (.a 5) 0, .le (.a 5) 63, .at (.eq (.a 3) (.a 4)) false, .at (.eq (.a 3) (.a 0)) false, .at (.eq (.a 4) (.a 0)) true, .ge (.a 4) 0, .is (.wrap .i64 (.sub (.a 4) (.a 3))) (.ofNat 65536)]) (ht : TabOK Try.prog val sl0 (tabW 16 false true true)) : Q val := leaf h ht (by kernel_rfl) (by kernel_rfl) (by kernel_rfl)
theorem d16_0110 {val : Nat → Int} (h : Holds val [.ge (.wrap .i64 (.add (.c (.ofNat 16)) (.a 5))) 65, .is (.a 1) (.ofNat 16), .ge (.a 5) 0, .le (.a 5) 63, .at (.eq (.a 3) (.a 4)) false, .at (.eq (.a 3) (.a 0)) true, .ge (.a 4) 0, .is (.wrap .i64 (.sub (.a 4) (.a 3))) (.ofNat 65536)]) (ht : TabOK Try.prog val sl0 (tabW 16 true true false)) : Q val := leaf h ht (by kernel_rfl) (by kernel_rfl) (by kernel_rfl)
theorem d16_0111 {val : Nat → Int} (h : Holds val [.le (.wrap .i64 (.add (.c (.ofNat 16)) (.a 5))) 64, .is (.a 1) (.ofNat 16), .ge (.a 5) 0, .le (.a 5) 63, .at (.eq (.a 3) (.a 4)) false, .at (.eq (.a 3) (.a 0)) true, .ge (.a 4) 0, .is (.wrap .i64 (.sub (.a 4) (.a 3))) (.ofNat 65536)]) (ht : TabOK Try.prog val sl0 (tabW 16 true true true)) : Q val := leaf h ht (by kernel_rfl) (by kernel_rfl) (by kernel_rfl)
theorem d16_1000 {val : Nat → Int} (h : Holds val [.ge (.wrap .i64 (.add (.c (.ofNat 16)) (.a 5))) 65, .is (.a 1) (.ofNat 16), .ge (.a 5) 0, .le (.a 5) 63, .at (.eq (.a 3) (.a 4)) true, .at (.eq (.a 3) (.a 0)) false, .at (.eq (.a 4) (.a 0)) false, .ge (.a 4) 0]) (ht : TabOK Try.prog val sl0 (tabW 16 false false false)) : Q val := leaf h ht (by kernel_rfl) (by kernel_rfl) (by kernel_rfl)
theorem d16_1001 {val : Nat → Int} (h : Holds val [.le (.wrap .i64 (.add (.c (.ofNat 16)) (.a 5))) 64, .is (.a 1) (.ofNat 16), .ge (.a 5) 0, .le (.a 5) 63, .at (.eq (.a 3) (.a 4)) true, .at (.eq (.a 3) (.a 0)) false, .at (.eq (.a 4) (.a 0)) false, .ge (.a 4) 0]) (ht : TabOK Try.prog val sl0 (tabW 16 false false true)) : Q val := leaf h ht (by kernel_rfl) (by kernel_rfl) (by kernel_rfl)
theorem d16_1110 {val : Nat → Int} (h : Holds val [.ge (.wrap .i64 (.add (.c (.ofNat 16)) (.a 5))) 65, .is (.a 1) (.ofNat 16), .ge (.a 5) 0, .le (.a 5) 63, .at (.eq (.a 3) (.a 4)) true, .at (.eq (.a 3) (.a 0)) true, .ge (.a 4) 0]) (ht : TabOK Try.prog val sl0 (tabW 16 true true false)) : Q val := leaf h ht (by kernel_rfl) (by kernel_rfl) (by kernel_rfl)
theorem d16_1111 {val : Nat → Int} (h : Holds val [.le (.wrap .i64 (.add (.c (.ofNat 16)) (.a 5))) 64, .is (.a 1) (.ofNat 16), .ge (.a 5) 0, .le (.a 5) 63, .at (.eq (.a 3) (.a 4)) true, .at (.eq (.a 3) (.a 0)) true, .ge (.a 4) 0]) (ht : TabOK Try.prog val sl0 (tabW 16 true true true)) : Q val := leaf h ht (by kernel_rfl) (by kernel_rfl) (by kernel_rfl)

theorem d16 : D 16 := by
  intro val e fb wb w h ht h1 h2 h3
  cases e <;> cases fb <;> cases wb <;> cases w
  · exact d16_0000 h ht
  · exact d16_0001 h ht
  · exact d16_0010 h ht
  · exact d16_0011 h ht
  · simp at h1 h2 h3
  · simp at h1 h2 h3
  · exact d16_0110 h ht
  · exact d16_0111 h ht
  · exact d16_1000 h ht
  · exact d16_1001 h ht
  · simp at h1 h2 h3
  · simp at h1 h2 h3
  · simp at h1 h2 h3
  · simp at h1 h2 h3
  · exact d16_1110 h ht
  · exact d16_1111 h ht

end Go.Proofs.Ytclgmeoofmidfaa.FitsL
