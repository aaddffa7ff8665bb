/-
  The law 'FieldFits', by widths: each way, run.
-/
import Derived.Test.YtclgmeoofmidfaaFitsH
namespace Go.Proofs.Ytclgmeoofmidfaa.FitsL
open Go.Sim Go.Proofs.Ytclgmeoofmidfaa.Fld
set_option maxRecDepth 100000

theorem d33_0000 {val : Nat → Int} (h : Holds val [.ge (.wrap .i64 (.add (.c (.ofNat 33)) (.a 5))) 65, .is (.a 1) (.ofNat 33), .ge (.a 5) 0, .le (.a 5) 63, .at (.eq (.a 3) (.a 4)) false, .at (.eq (.a 3) (.a 0)) false, .at (.eq (.a 4) (.a 0)) false, .ge (.a 4) 0, .is (.wrap .i64 (.sub (.a 4) (.a 3))) (.ofNat 8589934592)]) (ht : TabOK Try.prog val sl0 (tabW 33 false false false)) : Q val := leaf h ht (by kernel_rfl) (by kernel_rfl) (by kernel_rfl)
theorem d33_0001 {val : Nat → Int} (h : Holds val [.le (.wrap .i64 (.add (.c (.ofNat 33)) (.a 5))) 64, .is (.a 1) (.ofNat 33), .ge (.a 5) 0, .le (.a 5) 63, .at (.eq (.a 3) (.a 4)) false, .at (.eq (.a 3) (.a 0)) false, .at (.eq (.a 4) (.a 0)) false, .ge (.a 4) 0, .is (.wrap .i64 (.sub (.a 4) (.a 3))) (.ofNat 8589934592)]) (ht : TabOK Try.prog val sl0 (tabW 33 false false true)) : Q val := leaf h ht (by kernel_rfl) (by kernel_rfl) (by kernel_rfl)
theorem d33_0010 {val : Nat → Int} (h : Holds val [.ge (.wrap .i64 (.add (.c (.ofNat 33)) (.a 5))) 65, .is (.a 1) (.ofNat 33), .ge (.a 5) 0, .le (.a 5) 63, .at (.eq (.a 3) (.a 4)) false, .at (.eq (.a 3) (.a 0)) false, .at (.eq (.a 4) (.a 0)) true, .ge (.a 4) 0, .is (.wrap .i64 (.sub (.a 4) (.a 3))) (.ofNat 8589934592)]) (ht : TabOK Try.prog val sl0 (tabW 33 false true false)) : Q val := leaf h ht (by kernel_rfl) (by kernel_rfl) (by kernel_rfl)
theorem d33_0011 {val : Nat → Int} (h : Holds val [.le (.wrap .i64 (.add (.c (.ofNat 33)) (.a 5))) 64, .is (.a 1) (.ofNat 33), .ge (.a 5) 0, .le (.a 5) 63, .at (.eq (.a 3) (.a 4)) false, .at (.eq (.a 3) (.a 0)) false, .at (.eq (.a 4) (.a 0)) true, .ge (.a 4) 0, .is (.wrap .i64 (.sub (.a 4) (.a 3))) (.ofNat 8589934592)]) (ht : TabOK Try.prog val sl0 (tabW 33 false true true)) : Q val := leaf h ht (by kernel_rfl) (by kernel_rfl) (by kernel_rfl)
theorem d33_0110 {val : Nat → Int} (h : Holds val [.ge (.wrap .i64 (.add (.c (.ofNat 33)) (.a 5))) 65, .is (.a 1) (.ofNat 33), .ge (.a 5) 0, .le (.a 5) 63, .at (.eq (.a 3) (.a 4)) false, .at (.eq (.a 3) (.a 0)) true, .ge (.a 4) 0, .is (.wrap .i64 (.sub (.a 4) (.a 3))) (.ofNat 8589934592)]) (ht : TabOK Try.prog val sl0 (tabW 33 true true false)) : Q val := leaf h ht (by kernel_rfl) (by kernel_rfl) (by kernel_rfl)
theorem d33_0111 {val : Nat → Int} (h : Holds val [.le (.wrap .i64 (.add (.c (.ofNat 33)) (.a 5))) 64, .is (.a 1) (.ofNat 33), .ge (.a 5) 0, .le (.a 5) 63, .at (.eq (.a 3) (.a 4)) false, .at (.eq (.a 3) (.a 0)) true, .ge (.a 4) 0, .is (.wrap .i64 (.sub (.a 4) (.a 3))) (.ofNat 8589934592)]) (ht : TabOK Try.prog val sl0 (tabW 33 true true true)) : Q val := leaf h ht (by kernel_rfl) (by kernel_rfl) (by kernel_rfl)
theorem d33_1000 {val : Nat → Int} (h : Holds val [.ge (.wrap .i64 (.add (.c (.ofNat 33)) (.a 5))) 65, .is (.a 1) (.ofNat 33), .ge (.a 5) 0, .le (.a 5) 63, .at (.eq (.a 3) (.a 4)) true, .at (.eq (.a 3) (.a 0)) false, .at (.eq (.a 4) (.a 0)) false, .ge (.a 4) 0]) (ht : TabOK Try.prog val sl0 (tabW 33 false false false)) : Q val := leaf h ht (by kernel_rfl) (by kernel_rfl) (by kernel_rfl)
theorem d33_1001 {val : Nat → Int} (h : Holds val [.le (.wrap .i64 (.add (.c (.ofNat 33)) (.a 5))) 64, .is (.a 1) (.ofNat 33), .ge (.a 5) 0, .le (.a 5) 63, .at (.eq (.a 3) (.a 4)) true, .at (.eq (.a 3) (.a 0)) false, .at (.eq (.a 4) (.a 0)) false, .ge (.a 4) 0]) (ht : TabOK Try.prog val sl0 (tabW 33 false false true)) : Q val := leaf h ht (by kernel_rfl) (by kernel_rfl) (by kernel_rfl)
theorem d33_1110 {val : Nat → Int} (h : Holds val [.ge (.wrap .i64 (.add (.c (.ofNat 33)) (.a 5))) 65, .is (.a 1) (.ofNat 33), .ge (.a 5) 0, .le (.a 5) 63, .at (.eq (.a 3) (.a 4)) true, .at (.eq (.a 3) (.a 0)) true, .ge (.a 4) 0]) (ht : TabOK Try.prog val sl0 (tabW 33 true true false)) : Q val := leaf h ht (by kernel_rfl) (by kernel_rfl) (by kernel_rfl)
theorem d33_1111 {val : Nat → Int} (h : Holds val [.le (.wrap .i64 (.add (.c (.ofNat 33)) (.a 5))) 64, .is (.a 1) (.ofNat 33), .ge (.a 5) 0, .le (.a 5) 63, .at (.eq (.a 3) (.a 4)) true, .at (.eq (.a 3) (.a 0)) true, .ge (.a 4) 0]) (ht : TabOK Try.prog val sl0 (tabW 33 true true true)) : Q val := leaf h ht (by kernel_rfl) (by kernel_rfl) (by kernel_rfl)

theorem d33 : D 33 := by
  intro val e fb wb w h ht h1 h2 h3
  cases e <;> cases fb <;> cases wb <;> cases w
  · exact d33_0000 h ht
  · exact d33_0001 h ht
  · exact d33_0010 h ht
  · exact d33_0011 h ht
  · simp at h1 h2 h3
  · simp at h1 h2 h3
  · exact d33_0110 h ht
  · exact d33_0111 h ht
  · exact d33_1000 h ht
  · exact d33_1001 h ht
  · simp at h1 h2 h3
  · simp at h1 h2 h3
  · simp at h1 h2 h3
  · simp at h1 h2 h3
  · exact d33_1110 h ht
  · exact d33_1111 h ht

theorem d34_0000 {val : Nat → Int} (h : Holds val [.ge (.wrap .i64 (.add (.c (.ofNat 34)) (.a 5))) 65, .is (.a 1) (.ofNat 34), .ge (.a 5) 0, .le (.a 5) 63, .at (.eq (.a 3) (.a 4)) false, .at (.eq (.a 3) (.a 0)) false, .at (.eq (.a 4) (.a 0)) false, .ge (.a 4) 0, .is (.wrap .i64 (.sub (.a 4) (.a 3))) (.ofNat 17179869184)]) (ht : TabOK Try.prog val sl0 (tabW 34 false false false)) : Q val := leaf h ht (by kernel_rfl) (by kernel_rfl) (by kernel_rfl)
theorem d34_0001 {val : Nat → Int} (h : Holds val [.le (.wrap .i64 (.add (.c (.ofNat 34)) (.a 5))) 64, .is (.a 1) (.ofNat 34), .ge (.a 5) 0, .le (.a 5) 63, .at (.eq (.a 3) (.a 4)) false, .at (.eq (.a 3) (.a 0)) false, .at (.eq (.a 4) (.a 0)) false, .ge (.a 4) 0, .is (.wrap .i64 (.sub (.a 4) (.a 3))) (.ofNat 17179869184)]) (ht : TabOK Try.prog val sl0 (tabW 34 false false true)) : Q val := leaf h ht (by kernel_rfl) (by kernel_rfl) (by kernel_rfl)
theorem d34_0010 {val : Nat → Int} (h : Holds val [.ge (.wrap .i64 (.add (.c (.ofNat 34)) (.a 5))) 65, .is (.a 1) (.ofNat 34), .ge (.a 5) 0, .le (.a 5) 63, .at (.eq (.a 3) (.a 4)) false, .at (.eq (.a 3) (.a 0)) false, .at (.eq (.a 4) (.a 0)) true, .ge (.a 4) 0, .is (.wrap .i64 (.sub (.a 4) (.a 3))) (.ofNat 17179869184)]) (ht : TabOK Try.prog val sl0 (tabW 34 false true false)) : Q val := leaf h ht (by kernel_rfl) (by kernel_rfl) (by kernel_rfl)
theorem d34_0011 {val : Nat → Int} (h : Holds val [.le (.wrap .i64 (.add (.c (.ofNat 34)) (.a 5))) 64, .is (.a 1) (.ofNat 34), .ge (.a 5) 0, .le (.a 5) 63, .at (.eq (.a 3) (.a 4)) false, .at (.eq (.a 3) (.a 0)) false, .at (.eq (.a 4) (.a 0)) true, .ge (.a 4) 0, .is (.wrap .i64 (.sub (.a 4) (.a 3))) (.ofNat 17179869184)]) (ht : TabOK Try.prog val sl0 (tabW 34 false true true)) : Q val := leaf h ht (by kernel_rfl) (by kernel_rfl) (by kernel_rfl)
theorem d34_0110 {val : Nat → Int} (h : Holds val [.ge (.wrap .i64 (.add (.c (.ofNat 34)) (.a 5))) 65, .is (.a 1) (.ofNat 34), .ge (.a 5) 0, .le (.a 5) 63, .at (.eq (.a 3) (.a 4)) false, .at (.eq (.a 3) (.a 0)) true, .ge (.a 4) 0, .is (.wrap .i64 (.sub (.a 4) (.a 3))) (.ofNat 17179869184)]) (ht : TabOK Try.prog val sl0 (tabW 34 true true false)) : Q val := leaf h ht (by kernel_rfl) (by kernel_rfl) (by kernel_rfl)
theorem d34_0111 {val : Nat → Int} (h : Holds val [.le (.wrap .i64 (.add (.c (.ofNat 34)) (.a 5))) 64, .is (.a 1) (.ofNat 34), .ge (.a 5) 0, .le (.a 5) 63, .at (.eq (.a 3) (.a 4)) false, .at (.eq (.a 3) (.a 0)) true, .ge (.a 4) 0, .is (.wrap .i64 (.sub (.a 4) (.a 3))) (.ofNat 17179869184)]) (ht : TabOK Try.prog val sl0 (tabW 34 true true true)) : Q val := leaf h ht (by kernel_rfl) (by kernel_rfl) (by kernel_rfl)
theorem d34_1000 {val : Nat → Int} (h : Holds val [.ge (.wrap .i64 (.add (.c (.ofNat 34)) (.a 5))) 65, .is (.a 1) (.ofNat 34), .ge (.a 5) 0, .le (.a 5) 63, .at (.eq (.a 3) (.a 4)) true, .at (.eq (.a 3) (.a 0)) false, .at (.eq (.a 4) (.a 0)) false, .ge (.a 4) 0]) (ht : TabOK Try.prog val sl0 (tabW 34 false false false)) : Q val := leaf h ht (by kernel_rfl) (by kernel_rfl) (by kernel_rfl)
theorem d34_1001 {val : Nat → Int} (h : Holds val [.le (.wrap .i64 (.add (.c (.ofNat 34)) (.a 5))) 64, .is (.a 1) (.ofNat 34), .ge (.a 5) 0, .le (.a 5) 63, .at (.eq (.a 3) (.a 4)) true, .at (.eq (.a 3) (.a 0)) false, .at (.eq (.a 4) (.a 0)) false, .ge (.a 4) 0]) (ht : TabOK Try.prog val sl0 (tabW 34 false false true)) : Q val := leaf h ht (by kernel_rfl) (by kernel_rfl) (by kernel_rfl)
theorem d34_1110 {val : Nat → Int} (h : Holds val [.ge (.wrap .i64 (.add (.c (.ofNat 34)) (.a 5))) 65, .is (.a 1) (.ofNat 34), .ge (.a 5) 0, .le (.a 5) 63, .at (.eq (.a 3) (.a 4)) true, .at (.eq (.a 3) (.a 0)) true, .ge (.a 4) 0]) (ht : TabOK Try.prog val sl0 (tabW 34 true true false)) : Q val := leaf h ht (by kernel_rfl) (by kernel_rfl) (by kernel_rfl)
theorem d34_1111 {val : Nat → Int} (h : Holds val [.le (.wrap .i64 (.add (.c (.ofNat 34)) (.a 5))) 64, .is (.a 1) (.ofNat 34), .ge (.a 5) 0, .le (.a 5) 63, .at (.eq (.a 3) (.a 4)) true, .at (.eq (.a 3) (.a 0)) true, .ge (.a 4) 0]) (ht : TabOK Try.prog val sl0 (tabW 34 true true true)) : Q val := leaf h ht (by kernel_rfl) (by kernel_rfl) (by kernel_rfl)

theorem d34 : D 34 := by
  intro val e fb wb w h ht h1 h2 h3
  cases e <;> cases fb <;> cases wb <;> cases w
  · exact d34_0000 h ht
  · exact d34_0001 h ht
  · exact d34_0010 h ht
  · exact d34_0011 h ht
  · simp at h1 h2 h3
  · simp at h1 h2 h3
  · exact d34_0110 h ht
  · exact d34_0111 h ht
  · exact d34_1000 h ht
  · exact d34_1001 h ht
  · simp at h1 h2 h3
  · simp at h1 h2 h3
  · simp at h1 h2 h3
  · simp at h1 h2 h3
  · exact d34_1110 h ht
  · exact d34_1111 h ht

theorem d35_0000 {val : Nat → Int} (h : Holds val [.ge (.wrap .i64 (.add (.c (.ofNat 35)) (.a 5))) 65, .is (.a 1) (.ofNat 35), .ge (.a 5) 0, .le (.a 5) 63, .at (.eq (.a 3) (.a 4)) false, .at (.eq (.a 3) (.a 0)) false, .at (.eq (.a 4) (.a 0)) false, .ge (.a 4) 0, .is (.wrap .i64 (.sub (.a 4) (.a 3))) (.ofNat 34359738368)]) (ht : TabOK Try.prog val sl0 (tabW 35 false false false)) : Q val := leaf h ht (by kernel_rfl) (by kernel_rfl) (by kernel_rfl)
theorem d35_0001 {val : Nat → Int} (h : Holds val [.le (.wrap .i64 (.add (.c (.ofNat 35)) (.a 5))) 64, .is (.a 1) (.ofNat 35), .ge (.a 5) 0, .le (.a 5) 63, .at (.eq (.a 3) (.a 4)) false, .at (.eq (.a 3) (.a 0)) false, .at (.eq (.a 4) (.a 0)) false, .ge (.a 4) 0, .is (.wrap .i64 (.sub (.a 4) (.a 3))) (.ofNat 34359738368)]) (ht : TabOK Try.prog val sl0 (tabW 35 false false true)) : Q val := leaf h ht (by kernel_rfl) (by kernel_rfl) (by kernel_rfl)
theorem d35_0010 {val : Nat → Int} (h : Holds val [.ge (.wrap .i64 (.add (.c (.ofNat 35)) (.a 5))) 65, .is (.a 1) (.ofNat 35), .ge (.a 5) 0, .le (.a 5) 63, .at (.eq (.a 3) (.a 4)) false, .at (.eq (.a 3) (.a 0)) false, .at (.eq (.a 4) (.a 0)) true, .ge (.a 4) 0, .is (.wrap .i64 (.sub (.a 4) (.a 3))) (.ofNat 34359738368)]) (ht : TabOK Try.prog val sl0 (tabW 35 false true false)) : Q val := leaf h ht (by kernel_rfl) (by kernel_rfl) (by kernel_rfl)
theorem d35_0011 {val : Nat → Int} (h : Holds val [.le (.wrap .i64 (.add (.c (.ofNat 35)) (.a 5))) 64, .is (.a 1) (.ofNat 35), .ge (.a 5) 0, .le (.a 5) 63, .at (.eq (.a 3) (.a 4)) false, .at (.eq (.a 3) (.a 0)) false, .at (.eq (.a 4) (.a 0)) true, .ge (.a 4) 0, .is (.wrap .i64 (.sub (.a 4) (.a 3))) (.ofNat 34359738368)]) (ht : TabOK Try.prog val sl0 (tabW 35 false true true)) : Q val := leaf h ht (by kernel_rfl) (by kernel_rfl) (by kernel_rfl)
theorem d35_0110 {val : Nat → Int} (h : Holds val [.ge (.wrap .i64 (.add (.c (.ofNat 35)) (.a 5))) 65, .is (.a 1) (.ofNat 35), .ge (.a 5) 0, .le (.a 5) 63, .at (.eq (.a 3) (.a 4)) false, .at (.eq (.a 3) (.a 0)) true, .ge (.a 4) 0, .is (.wrap .i64 (.sub (.a 4) (.a 3))) (.ofNat 34359738368)]) (ht : TabOK Try.prog val sl0 (tabW 35 true true false)) : Q val := leaf h ht (by kernel_rfl) (by kernel_rfl) (by kernel_rfl)
theorem d35_0111 {val : Nat → Int} (h : Holds val [.le (.wrap .i64 (.add (.c (.ofNat 35)) (.a 5))) 64, .is (.a 1) (.ofNat 35), .ge (.a 5) 0, .le (.a 5) 63, .at (.eq (.a 3) (.a 4)) false, .at (.eq (.a 3) (.a 0)) true, .ge (.a 4) 0, .is (.wrap .i64 (.sub (.a 4) (.a 3))) (.ofNat 34359738368)]) (ht : TabOK Try.prog val sl0 (tabW 35 true true true)) : Q val := leaf h ht (by kernel_rfl) (by kernel_rfl) (by kernel_rfl)
theorem d35_1000 {val : Nat → Int} (h : Holds val [.ge (.wrap .i64 (.add (.c (.ofNat 35)) (.a 5))) 65, .is (.a 1) (.ofNat 35), .ge (.a 5) 0, .le (.a 5) 63, .at (.eq (.a 3) (.a 4)) true, .at (.eq (.a 3) (.a 0)) false, .at (.eq (.a 4) (.a 0)) false, .ge (.a 4) 0]) (ht : TabOK Try.prog val sl0 (tabW 35 false false false)) : Q val := leaf h ht (by kernel_rfl) (by kernel_rfl) (by kernel_rfl)
theorem d35_1001 {val : Nat → Int} (h : Holds val [.le (.wrap .i64 (.add (.c (.ofNat 35)) (.a 5))) 64, .is (.a 1) (.ofNat 35), .ge (.a 5) 0, .le (.a 5) 63, .at (.eq (.a 3) (.a 4)) true, .at (.eq (.a 3) (.a 0)) false, .at (.eq (.a 4) (.a 0)) false, .ge (.a 4) 0]) (ht : TabOK Try.prog val sl0 (tabW 35 false false true)) : Q val := leaf h ht (by kernel_rfl) (by kernel_rfl) (by kernel_rfl)
theorem d35_1110 {val : Nat → Int} (h : Holds val [.ge (.wrap .i64 (.add (.c (.ofNat 35)) (.a 5))) 65, .is (.a 1) (.ofNat 35), .ge (.a 5) 0, .le (.a 5) 63, .at (.eq (.a 3) (.a 4)) true, .at (.eq (.a 3) (.a 0)) true, .ge (.a 4) 0]) (ht : TabOK Try.prog val sl0 (tabW 35 true true false)) : Q val := leaf h ht (by kernel_rfl) (by kernel_rfl) (by kernel_rfl)
theorem d35_1111 {val : Nat → Int} (h : Holds val [.le (.wrap .i64 (.add (.c (.ofNat 35)) (.a 5))) 64, .is (.a 1) (.ofNat 35), .ge (.a 5) 0, .le (.a 5) 63, .at (.eq (.a 3) (.a 4)) true, .at (.eq (.a 3) (.a 0)) true, .ge (.a 4) 0]) (ht : TabOK Try.prog val sl0 (tabW 35 true true true)) : Q val := leaf h ht (by kernel_rfl) (by kernel_rfl) (by kernel_rfl)

theorem d35 : D 35 := by
  intro val e fb wb w h ht h1 h2 h3
  cases e <;> cases fb <;> cases wb <;> cases w
  · exact d35_0000 h ht
  · exact d35_0001 h ht
  · exact d35_0010 h ht
  · exact d35_0011 h ht
  · simp at h1 h2 h3
  · simp at h1 h2 h3
  · exact d35_0110 h ht
  · exact d35_0111 h ht
  · exact d35_1000 h ht
  · exact d35_1001 h ht
  · simp at h1 h2 h3
  · simp at h1 h2 h3
  · simp at h1 h2 h3
  · simp at h1 h2 h3
  · exact d35_1110 h ht
  · exact d35_1111 h ht

theorem d36_0000 {val : Nat → Int} (h : Holds val [.ge (.wrap .i64 (.add (.c (.ofNat 36)) (.a 5))) 65, .is (.a 1) (.ofNat 36), .ge (.a 5) 0, .le (.a 5) 63, .at (.eq (.a 3) (.a 4)) false, .at (.eq (.a 3) (.a 0)) false, .at (.eq (.a 4) (.a 0)) false, .ge (.a 4) 0, .is (.wrap .i64 (.sub (.a 4) (.a 3))) (.ofNat 68719476736)]) (ht : TabOK Try.prog val sl0 (tabW 36 false false false)) : Q val := leaf h ht (by kernel_rfl) (by kernel_rfl) (by kernel_rfl)
theorem d36_0001 {val : Nat → Int} (h : Holds val [.le (.wrap .i64 (.add (.c (.ofNat 36)) (.a 5))) 64, .is (.a 1) (.ofNat 36), .ge (.a 5) 0, .le (.a 5) 63, .at (.eq (.a 3) (.a 4)) false, .at (.eq (.a 3) (.a 0)) false, .at (.eq (.a 4) (.a 0)) false, .ge (.a 4) 0, .is (.wrap .i64 (.sub (.a 4) (.a 3))) (.ofNat 68719476736)]) (ht : TabOK Try.prog val sl0 (tabW 36 false false true)) : Q val := leaf h ht (by kernel_rfl) (by kernel_rfl) (by kernel_rfl)
theorem d36_0010 {val : Nat → Int} (h : Holds val [.ge (.wrap .i64 (.add (.c (.ofNat 36)) (.a 5))) 65, .is (.a 1) (.ofNat 36), .ge (.a 5) 0, .le (.a 5) 63, .at (.eq (.a 3) (.a 4)) false, .at (.eq (.a 3) (.a 0)) false, .at (.eq (.a 4) (.a 0)) true, .ge (.a 4) 0, .is (.wrap .i64 (.sub (.a 4) (.a 3))) (.ofNat 68719476736)]) (ht : TabOK Try.prog val sl0 (tabW 36 false true false)) : Q val := leaf h ht (by kernel_rfl) (by kernel_rfl) (by kernel_rfl)
theorem d36_0011 {val : Nat → Int} (h : Holds val [.le (.wrap .i64 (.add (.c (.ofNat 36)) (.a 5))) 64, .is (.a 1) (.ofNat 36), .ge (.a 5) 0, .le (.a 5) 63, .at (.eq (.a 3) (.a 4)) false, .at (.eq (.a 3) (.a 0)) false, .at (.eq (.a 4) (.a 0)) true, .ge (.a 4) 0, .is (.wrap .i64 (.sub (.a 4) (.a 3))) (.ofNat 68719476736)]) (ht : TabOK Try.prog val sl0 (tabW 36 false true true)) : Q val := leaf h ht (by kernel_rfl) (by kernel_rfl) (by kernel_rfl)
theorem d36_0110 {val : Nat → Int} (h : Holds val [.ge (.wrap .i64 (.add (.c (.ofNat 36)) (.a 5))) 65, .is (.a 1) (.ofNat 36), .ge (.a 5) 0, .le (.a 5) 63, .at (.eq (.a 3) (.a 4)) false, .at (.eq (.a 3) (.a 0)) true, .ge (.a 4) 0, .is (.wrap .i64 (.sub (.a 4) (.a 3))) (.ofNat 68719476736)]) (ht : TabOK Try.prog val sl0 (tabW 36 true true false)) : Q val := leaf h ht (by kernel_rfl) (by kernel_rfl) (by kernel_rfl)
theorem d36_0111 {val : Nat → Int} (h : Holds val [.le (.wrap .i64 (.add (.c (.ofNat 36)) (.a 5))) 64, .is (.a 1) (.ofNat 36), .ge (.a 5) 0, .le (.a 5) 63, .at (.eq (.a 3) (.a 4)) false, .at (.eq (.a 3) (.a 0)) true, .ge (.a 4) 0, .is (.wrap .i64 (.sub (.a 4) (.a 3))) (.ofNat 68719476736)]) (ht : TabOK Try.prog val sl0 (tabW 36 true true true)) : Q val := leaf h ht (by kernel_rfl) (by kernel_rfl) (by kernel_rfl)
theorem d36_1000 {val : Nat → Int} (h : Holds val [.ge (.wrap .i64 (.add (.c (.ofNat 36)) (.a 5))) 65, .is (.a 1) (.ofNat 36), .ge (.a 5) 0, .le (.a 5) 63, .at (.eq (.a 3) (.a 4)) true, .at (.eq (.a 3) (.a 0)) false, .at (.eq (.a 4) (.a 0)) false, .ge (.a 4) 0]) (ht : TabOK Try.prog val sl0 (tabW 36 false false false)) : Q val := leaf h ht (by kernel_rfl) (by kernel_rfl) (by kernel_rfl)
theorem d36_1001 {val : Nat → Int} (h : Holds val [.le (.wrap .i64 (.add (.c (.ofNat 36)) (.a 5))) 64, .is (.a 1) (.ofNat 36), .ge (.a 5) 0, .le (.a 5) 63, .at (.eq (.a 3) (.a 4)) true, .at (.eq (.a 3) (.a 0)) false, .at (.eq (.a 4) (.a 0)) false, .ge (.a 4) 0]) (ht : TabOK Try.prog val sl0 (tabW 36 false false true)) : Q val := leaf h ht (by kernel_rfl) (by kernel_rfl) (by kernel_rfl)
theorem d36_1110 {val : Nat → Int} (h : Holds val [.ge (.wrap .i64 (.add (.c (.ofNat 36)) (.a 5))) 65, .is (.a 1) (.ofNat 36), .ge (.a 5) 0, .le (.a 5) 63, .at (.eq (.a 3) (.a 4)) true, .at (.eq (.a 3) (.a 0)) true, .ge (.a 4) 0]) (ht : TabOK Try.prog val sl0 (tabW 36 true true false)) : Q val := leaf h ht (by kernel_rfl) (by kernel_rfl) (by kernel_rfl)
theorem d36_1111 {val : Nat → Int} (h : Holds val [.le (.wrap .i64 (.add (.c (.ofNat 36)) (.a 5))) 64, .is (.a 1) (.ofNat 36), .ge (.a 5) 0, .le (.a 5) 63, .at (.eq (.a 3) (.a 4)) true, .at (.eq (.a 3) (.a 0)) true, .ge (.a 4) 0]) (ht : TabOK Try.prog val sl0 (tabW 36 true true true)) : Q val := leaf h ht (by kernel_rfl) (by kernel_rfl) (by kernel_rfl)

theorem d36 : D 36 := by
  intro val e fb wb w h ht h1 h2 h3
  cases e <;> cases fb <;> cases wb <;> cases w
  · exact d36_0000 h ht
  · exact d36_0001 h ht
  · exact d36_0010 h ht
  · exact d36_0011 h ht
  · simp at h1 h2 h3
  · simp at h1 h2 h3
  · exact d36_0110 h ht
  · exact d36_0111 h ht
  · exact d36_1000 h ht
  · exact d36_1001 h ht
  · simp at h1 h2 h3
  · simp at h1 h2 h3
  · simp at h1 h2 h3
  · simp at h1 h2 h3
  · exact d36_1110 h ht
  · exact d36_1111 h ht

theorem d37_0000 {val : Nat → Int} (h : Holds val [.ge (.wrap .i64 (.add (.c (.ofNat 37)) (.a 5))) 65, .is (.a 1) (.ofNat 37), .ge (.a 5) 0, .le (.a 5) 63, .at (.eq (.a 3) (.a 4)) false, .at (.eq (.a 3) (.a 0)) false, .at (.eq (.a 4) (.a 0)) false, .ge (.a 4) 0, .is (.wrap .i64 (.sub (.a 4) (.a 3))) (.ofNat 137438953472)]) (ht : TabOK Try.prog val sl0 (tabW 37 false false false)) : Q val := leaf h ht (by kernel_rfl) (by kernel_rfl) (by kernel_rfl)
theorem d37_0001 {val : Nat → Int} (h : Holds val [.le (.wrap .i64 (.add (.c (.ofNat 37)) (.a 5))) 64, .is (.a 1) (.ofNat 37), .ge (.a 5) 0, .le (.a 5) 63, .at (.eq (.a 3) (.a 4)) false, .at (.eq (.a 3) (.a 0)) false, .at (.eq (.a 4) (.a 0)) false, .ge (.a 4) 0, .is (.wrap .i64 (.sub (.a 4) (.a 3))) (.ofNat 137438953472)]) (ht : TabOK Try.prog val sl0 (tabW 37 false false true)) : Q val := leaf h ht (by kernel_rfl) (by kernel_rfl) (by kernel_rfl)
theorem d37_0010 {val : Nat → Int} (h : Holds val [.ge (.wrap .i64 (.add (.c (.ofNat 37)) (.a 5))) 65, .is (.a 1) (.ofNat 37), .ge (.a 5) 0, .le (.a 5) 63, .at (.eq (.a 3) (.a 4)) false, .at (.eq (.a 3) (.a 0)) false, .at (.eq (.a 4) (.a 0)) true, .ge (.a 4) 0, .is (.wrap .i64 (.sub (.a 4) (.a 3))) (.ofNat 137438953472)]) (ht : TabOK Try.prog val sl0 (tabW 37 false true false)) : Q val := leaf h ht (by kernel_rfl) (by kernel_rfl) (by kernel_rfl)
theorem d37_0011 {val : Nat → Int} (h : Holds val [.le (.wrap .i64 (.add (.c (.ofNat 37)) (.a 5))) 64, .is (.a 1) (.ofNat 37), .ge (.a 5) 0, .le (.a 5) 63, .at (.eq (.a 3) (.a 4)) false, .at (.eq (.a 3) (.a 0)) false, .at (.eq (.a 4) (.a 0)) true, .ge (.a 4) 0, .is (.wrap .i64 (.sub (.a 4) (.a 3))) (.ofNat 137438953472)]) (ht : TabOK Try.prog val sl0 (tabW 37 false true true)) : Q val := leaf h ht (by kernel_rfl) (by kernel_rfl) (by kernel_rfl)
theorem d37_0110 {val : Nat → Int} (h : Holds val [.ge (.wrap .i64 (.add (.c (.ofNat 37)) (.a 5))) 65, .is (.a 1) (.ofNat 37), .ge (.a 5) 0, .le (.a 5) 63, .at (.eq (.a 3) (.a 4)) false, .at (.eq (.a 3) (.a 0)) true, .ge (.a 4) 0, .is (.wrap .i64 (.sub (.a 4) (.a 3))) (.ofNat 137438953472)]) (ht : TabOK Try.prog val sl0 (tabW 37 true true false)) : Q val := leaf h ht (by kernel_rfl) (by kernel_rfl) (by kernel_rfl)
theorem d37_0111 {val : Nat → Int} (h : Holds val [.le (.wrap .i64 (.add (.c (.ofNat 37)) (.a 5))) 64, .is (.a 1) (.ofNat 37), .ge (.a 5) 0, .le (.a 5) 63, .at (.eq (.a 3) (.a 4)) false, .at (.eq (.a 3) (.a 0)) true, .ge (.a 4) 0, .is (.wrap .i64 (.sub (.a 4) (.a 3))) (.ofNat 137438953472)]) (ht : TabOK Try.prog val sl0 (tabW 37 true true true)) : Q val := leaf h ht (by kernel_rfl) (by kernel_rfl) (by kernel_rfl)
theorem d37_1000 {val : Nat → Int} (h : Holds val [.ge (.wrap .i64 (.add (.c (.ofNat 37)) (.a 5))) 65, .is (.a 1) (.ofNat 37), .ge (.a 5) 0, .le (.a 5) 63, .at (.eq (.a 3) (.a 4)) true, .at (.eq (.a 3) (.a 0)) false, .at (.eq (.a 4) (.a 0)) false, .ge (.a 4) 0]) (ht : TabOK Try.prog val sl0 (tabW 37 false false false)) : Q val := leaf h ht (by kernel_rfl) (by kernel_rfl) (by kernel_rfl)
theorem d37_1001 {val : Nat → Int} (h : Holds val [.le (.wrap .i64 (.add (.c (.ofNat 37)) (.a 5))) 64, .is (.a 1) (.ofNat 37), .ge (.a 5) 0, .le (.a 5) 63, .at (.eq (.a 3) (.a 4)) true, .at (.eq (.a 3) (.a 0)) false, .at (.eq (.a 4) (.a 0)) false, .ge (.a 4) 0]) (ht : TabOK Try.prog val sl0 (tabW 37 false false true)) : Q val := leaf h ht (by kernel_rfl) (by kernel_rfl) (by kernel_rfl)
theorem d37_1110 {val : Nat → Int} (h : Holds val [.ge (.wrap .i64 (.add (.c (.ofNat 37)) (.a 5))) 65, .is (.a 1) (.ofNat 37), .ge (.a 5) 0, .le (.a 5) 63, .at (.eq (.a 3) (.a 4)) true, .at (.eq (.a 3) (.a 0)) true, .ge (.a 4) 0]) (ht : TabOK Try.prog val sl0 (tabW 37 true true false)) : Q val := leaf h ht (by kernel_rfl) (by kernel_rfl) (by kernel_rfl)
theorem d37_1111 {val : Nat → Int} (h : Holds val [.le (.wrap .i64 (.add (.c (.ofNat 37)) (.a 5))) 64, .is (.a 1) (.ofNat 37), .ge (.a 5) 0, .le (.a 5) 63, .at (.eq (.a 3) (.a 4)) true, .at (.eq (.a 3) (.a 0)) true, .ge (.a 4) 0]) (ht : TabOK Try.prog val sl0 (tabW 37 true true true)) : Q val := leaf h ht (by kernel_rfl) (by kernel_rfl) (by kernel_rfl)

theorem d37 : D 37 := by
  intro val e fb wb w h ht h1 h2 h3
  cases e <;> cases fb <;> cases wb <;> cases w
  · exact d37_0000 h ht
  · exact d37_0001 h ht
  · exact d37_0010 h ht
  · exact d37_0011 h ht
  · simp at h1 h2 h3
  · simp at h1 h2 h3
  · exact d37_0110 h ht
  · exact d37_0111 h ht
  · exact d37_1000 h ht
  · exact d37_1001 h ht
  · simp at h1 h2 h3
  · simp at h1 h2 h3
  · simp at h1 h2 h3
  · simp at h1 h2 h3
  · exact d37_1110 h ht
  · exact d37_1111 h ht

theorem d38_0000 {val : Nat → Int} (h : Holds val [.ge (.wrap .i64 (.add (.c (.ofNat 38)) (.a 5))) 65, .is (.a 1) (.ofNat 38), .ge (.a 5) 0, .le (.a 5) 63, .at (.eq (.a 3) (.a 4)) false, .at (.eq (.a 3) (.a 0)) false, .at (.eq (.a 4) (.a 0)) false, .ge (.a 4) 0, .is (.wrap .i64 (.sub (.a 4) (.a 3))) (.ofNat 274877906944)]) (ht : TabOK Try.prog val sl0 (tabW 38 false false false)) : Q val := leaf h ht (by kernel_rfl) (by kernel_rfl) (by kernel_rfl)
theorem d38_0001 {val : Nat → Int} (h : Holds val [.le (.wrap .i64 (.add (.c (.ofNat 38)) (.a 5))) 64, .is (.a 1) (.ofNat 38), .ge (.a 5) 0, .le (.a 5) 63, .at (.eq (.a 3) (.a 4)) false, .at (.eq (.a 3) (.a 0)) false, .at (.eq (.a 4) (.a 0)) false, .ge (.a 4) 0, .is (.wrap .i64 (.sub (.a 4) (.a 3))) (.ofNat 274877906944)]) (ht : TabOK Try.prog val sl0 (tabW 38 false false true)) : Q val := leaf h ht (by kernel_rfl) (by kernel_rfl) (by kernel_rfl)
theorem d38_0010 {val : Nat → Int} (h : Holds val [.ge (.wrap .i64 (.add (.c (.ofNat 38)) (.a 5))) 65, .is (.a 1) (.ofNat 38), .ge (.a 5) 0, .le (.a 5) 63, .at (.eq (.a 3) (.a 4)) false, .at (.eq (.a 3) (.a 0)) false, .at (.eq (.a 4) (.a 0)) true, .ge (.a 4) 0, .is (.wrap .i64 (.sub (.a 4) (.a 3))) (.ofNat 274877906944)]) (ht : TabOK Try.prog val sl0 (tabW 38 false true false)) : Q val := leaf h ht (by kernel_rfl) (by kernel_rfl) (by kernel_rfl)
theorem d38_0011 {val : Nat → Int} (h : Holds val [.le (.wrap .i64 (.add (.c (.ofNat 38)) (.a 5))) 64, .is (.a 1) (.ofNat 38), .ge (.a 5) 0, .le (.a 5) 63, .at (.eq (.a 3) (.a 4)) false, .at (.eq (.a 3) (.a 0)) false, .at (.eq (.a 4) (.a 0)) true, .ge (.a 4) 0, .is (.wrap .i64 (.sub (.a 4) (.a 3))) (.ofNat 274877906944)]) (ht : TabOK Try.prog val sl0 (tabW 38 false true true)) : Q val := leaf h ht (by kernel_rfl) (by kernel_rfl) (by kernel_rfl)
theorem d38_0110 {val : Nat → Int} (h : Holds val [.ge (.wrap .i64 (.add (.c (.ofNat 38)) (.a 5))) 65, .is (.a 1) (.ofNat 38), .ge (.a 5) 0, .le (.a 5) 63, .at (.eq (.a 3) (.a 4)) false, .at (.eq (.a 3) (.a 0)) true, .ge (.a 4) 0, .is (.wrap .i64 (.sub (.a 4) (.a 3))) (.ofNat 274877906944)]) (ht : TabOK Try.prog val sl0 (tabW 38 true true false)) : Q val := leaf h ht (by kernel_rfl) (by kernel_rfl) (by kernel_rfl)
theorem d38_0111 {val : Nat → Int} (h : Holds val [.le (.wrap .i64 (.add (.c (.ofNat 38)) (.a 5))) 64, .is (.a 1) (.ofNat 38), .ge (.a 5) 0, .le (.a 5) 63, .at (.eq (.a 3) (.a 4)) false, .at (.eq (.a 3) (.a 0)) true, .ge (.a 4) 0, .is (.wrap .i64 (.sub (.a 4) (.a 3))) (.ofNat 274877906944)]) (ht : TabOK Try.prog val sl0 (tabW 38 true true true)) : Q val := leaf h ht (by kernel_rfl) (by kernel_rfl) (by kernel_rfl)
theorem d38_1000 {val : Nat → Int} (h : Holds val [.ge (.wrap .i64 (.add (.c (.ofNat 38)) (.a 5))) 65, .is (.a 1) (.ofNat 38), .ge (.a 5) 0, .le (.a 5) 63, .at (.eq (.a 3) (.a 4)) true, .at (.eq (.a 3) (.a 0)) false, .at (.eq (.a 4) (.a 0)) false, .ge (.a 4) 0]) (ht : TabOK Try.prog val sl0 (tabW 38 false false false)) : Q val := leaf h ht (by kernel_rfl) (by kernel_rfl) (by kernel_rfl)
theorem d38_1001 {val : Nat → Int} (h : Holds val [.le (.wrap .i64 (.add (.c (.ofNat 38)) (.a 5))) 64, .is (.a 1) (.ofNat 38), .ge (.a 5) 0, .le (.a 5) 63, .at (.eq (.a 3) (.a 4)) true, .at (.eq (.a 3) (.a 0)) false, .at (.eq (.a 4) (.a 0)) false, .ge (.a 4) 0]) (ht : TabOK Try.prog val sl0 (tabW 38 false false true)) : Q val := leaf h ht (by kernel_rfl) (by kernel_rfl) (by kernel_rfl)
theorem d38_1110 {val : Nat → Int} (h : Holds val [.ge (.wrap .i64 (.add (.c (.ofNat 38)) (.a 5))) 65, .is (.a 1) (.ofNat 38), .ge (.a 5) 0, .le (.a 5) 63, .at (.eq (.a 3) (.a 4)) true, .at (.eq (.a 3) (.a 0)) true, .ge (.a 4) 0]) (ht : TabOK Try.prog val sl0 (tabW 38 true true false)) : Q val := leaf h ht (by kernel_rfl) (by kernel_rfl) (by kernel_rfl)
theorem d38_1111 {val : Nat → Int} (h : Holds val [.le (.wrap .i64 (.add (.c (.ofNat 38)) (.a 5))) 64, .is (.a 1) (.ofNat 38), .ge (.a 5) 0, .le (.a 5) 63, .at (.eq (.a 3) (.a 4)) true, .at (.eq (.a 3) (.a 0)) true, .ge (.a 4) 0]) (ht : TabOK Try.prog val sl0 (tabW 38 true true true)) : Q val := leaf h ht (by kernel_rfl) (by kernel_rfl) (by kernel_rfl)

theorem d38 : D 38 := by
  intro val e fb wb w h ht h1 h2 h3
  cases e <;> cases fb <;> cases wb <;> cases w
  · exact d38_0000 h ht
  · exact d38_0001 h ht
  · exact d38_0010 h ht
  · exact d38_0011 h ht
  · simp at h1 h2 h3
  · simp at h1 h2 h3
  · exact d38_0110 h ht
  · exact d38_0111 h ht
  · exact d38_1000 h ht
  · exact d38_1001 h ht
  · simp at h1 h2 h3
  · simp at h1 h2 h3
  · simp at h1 h2 h3
  · simp at h1 h2 h3
  · exact d38_1110 h ht
  · exact d38_1111 h ht

theorem d39_0000 {val : Nat → Int} (h : Holds val [.ge (.wrap .i64 (.add (.c (.ofNat 39)) (.a 5))) 65, .is (.a 1) (.ofNat 39), .ge (.a 5) 0, .le (.a 5) 63, .at (.eq (.a 3) (.a 4)) false, .at (.eq (.a 3) (.a 0)) false, .at (.eq (.a 4) (.a 0)) false, .ge (.a 4) 0, .is (.wrap .i64 (.sub (.a 4) (.a 3))) (.ofNat 549755813888)]) (ht : TabOK Try.prog val sl0 (tabW 39 false false false)) : Q val := leaf h ht (by kernel_rfl) (by kernel_rfl) (by kernel_rfl)
theorem d39_0001 {val : Nat → Int} (h : Holds val [.le (.wrap .i64 (.add (.c (.ofNat 39)) (.a 5))) 64, .is (.a 1) (.ofNat 39), .ge (.a 5) 0, .le (.a 5) 63, .at (.eq (.a 3) (.a 4)) false, .at (.eq (.a 3) (.a 0)) false, .at (.eq (.a 4) (.a 0)) false, .ge (.a 4) 0, .is (.wrap .i64 (.sub (.a 4) (.a 3))) (.ofNat 549755813888)]) (ht : TabOK Try.prog val sl0 (tabW 39 false false true)) : Q val := leaf h ht (by kernel_rfl) (by kernel_rfl) (by kernel_rfl)
theorem d39_0010 {val : Nat → Int} (h : Holds val [.ge (.wrap .i64 (.add (.c (.ofNat 39)) (.a 5))) 65, .is (.a 1) (.ofNat 39), .ge (.a 5) 0, .le (.a 5) 63, .at (.eq (.a 3) (.a 4)) false, .at (.eq (.a 3) (.a 0)) false, .at (.eq (.a 4) (.a 0)) true, .ge (.a 4) 0, .is (.wrap .i64 (.sub (.a 4) (.a 3))) (.ofNat 549755813888)]) (ht : TabOK Try.prog val sl0 (tabW 39 false true false)) : Q val := leaf h ht (by kernel_rfl) (by kernel_rfl) (by kernel_rfl)
theorem d39_0011 {val : Nat → Int} (h : Holds val [.le (.wrap .i64 (.add (.c (.ofNat 39)) (.a 5))) 64, .is (.a 1) (.ofNat 39), .ge (.a 5) 0, .le (.a 5) 63, .at (.eq (.a 3) (.a 4)) false, .at (.eq (.a 3) (.a 0)) false, .at (.eq (.a 4) (.a 0)) true, .ge (.a 4) 0, .is (.wrap .i64 (.sub (.a 4) (.a 3))) (.ofNat 549755813888)]) (ht : TabOK Try.prog val sl0 (tabW 39 false true true)) : Q val := leaf h ht (by kernel_rfl) (by kernel_rfl) (by kernel_rfl)
theorem d39_0110 {val : Nat → Int} (h : Holds val [.ge (.wrap .i64 (.add (.c (.ofNat 39)) (.a 5))) 65, .is (.a 1) (.ofNat 39), .ge (.a 5) 0, .le (.a 5) 63, .at (.eq (.a 3) (.a 4)) false, .at (.eq (.a 3) (.a 0)) true, .ge (.a 4) 0, .is (.wrap .i64 (.sub (.a 4) (.a 3))) (.ofNat 549755813888)]) (ht : TabOK Try.prog val sl0 (tabW 39 true true false)) : Q val := leaf h ht (by kernel_rfl) (by kernel_rfl) (by kernel_rfl)
theorem d39_0111 {val : Nat → Int} (h : Holds val [.le (.wrap .i64 (.add (.c (.ofNat 39)) (.a 5))) 64, .is (.a 1) (.ofNat 39), .ge (.a 5) 0, .le (.a 5) 63, .at (.eq (.a 3) (.a 4)) false, .at (.eq (.a 3) (.a 0)) true, .ge (.a 4) 0, .is (.wrap .i64 (.sub (.a 4) (.a 3))) (.ofNat 549755813888)]) (ht : TabOK Try.prog val sl0 (tabW 39 true true true)) : Q val := leaf h ht (by kernel_rfl) (by kernel_rfl) (by kernel_rfl)
theorem d39_1000 {val : Nat → Int} (h : Holds val [.ge (.wrap .i64 (.add (.c (.ofNat 39)) (.a 5))) 65, .is (.a 1) (.ofNat 39), .ge (.a 5) 0, .le (.a 5) 63, .at (.eq (.a 3) (.a 4)) true, .at (.eq (.a 3) (.a 0)) false, .at (.eq (.a 4) (.a 0)) false, .ge (.a 4) 0]) (ht : TabOK Try.prog val sl0 (tabW 39 false false false)) : Q val := leaf h ht (by kernel_rfl) (by kernel_rfl) (by kernel_rfl)
theorem d39_1001 {val : Nat → Int} (h : Holds val [.le (.wrap .i64 (.add (.c (.ofNat 39)) (.a 5))) 64, .is (.a 1) (.ofNat 39), .ge (.a 5) 0, .le (.a 5) 63, .at (.eq (.a 3) (.a 4)) true, .at (.eq (.a 3) (.a 0)) false, .at (.eq (.a 4) (.a 0)) false, .ge (.a 4) 0]) (ht : TabOK Try.prog val sl0 (tabW 39 false false true)) : Q val := leaf h ht (by kernel_rfl) (by kernel_rfl) (by kernel_rfl)
theorem d39_1110 {val : Nat → Int} (h : Holds val [.ge (.wrap .i64 (.add (.c (.ofNat 39)) (.a 5))) 65, .is (.a 1) (.ofNat 39), .ge (.a 5) 0, .le (.a 5) 63, .at (.eq (.a 3) (.a 4)) true, .at (.eq (.a 3) (.a 0)) true, .ge (.a 4) 0]) (ht : TabOK Try.prog val sl0 (tabW 39 true true false)) : Q val := leaf h ht (by kernel_rfl) (by kernel_rfl) (by kernel_rfl)
theorem d39_1111 {val : Nat → Int} (h : Holds val [.le (.wrap .i64 (.add (.c (.ofNat 39)) (.a 5))) 64, .is (.a 1) (.ofNat 39), .ge (.a 5) 0, .le (.a 5) 63, .at (.eq (.a 3) (.a 4)) true, .at (.eq (.a 3) (.a 0)) true, .ge (.a 4) 0]) (ht : TabOK Try.prog val sl0 (tabW 39 true true true)) : Q val := leaf h ht (by kernel_rfl) (by kernel_rfl) (by kernel_rfl)

theorem d39 : D 39 := by
  intro val e fb wb w h ht h1 h2 h3
  cases e <;> cases fb <;> cases wb <;> cases w
  · exact d39_0000 h ht
  · exact d39_0001 h ht
  · exact d39_0010 h ht
  · exact d39_0011 h ht
  · simp at h1 h2 h3
  · simp at h1 h2 h3
  · exact d39_0110 h ht
  · exact d39_0111 h ht
  · exact d39_1000 h ht
  · exact d39_1001 h ht
  · simp at h1 h2 h3
  · simp at h1 h2 h3
  · simp at h1 h2 h3
  · simp at h1 h2 h3
  · exact d39_1110 h ht
  · exact d39_1111 h ht

theorem d40_0000 {val : Nat → Int} (h : Holds val [.ge (.wrap .i64 (.add (.c (.ofNat 40)) (.a 5))) 65, .is (.a 1) (.ofNat 40), .ge (.a 5) 0, .le (.a 5) 63, .at (.eq (.a 3) (.a 4)) false, .at (.eq (.a 3) (.a 0)) false, .at (.eq (.a 4) (.a 0)) false, .ge (.a 4) 0, .is (.wrap .i64 (.sub (.a 4) (.a 3))) (.ofNat 1099511627776)]) (ht : TabOK Try.prog val sl0 (tabW 40 false false false)) : Q val := leaf h ht (by kernel_rfl) (by kernel_rfl) (by kernel_rfl)
theorem d40_0001 {val : Nat → Int} (h : Holds val [.le (.wrap .i64 (.add (.c (.ofNat 40)) (.a 5))) 64, .is (.a 1) (.ofNat 40), .ge (.a 5) 0, .le (.a 5) 63, .at (.eq (.a 3) (.a 4)) false, .at (.eq (.a 3) (.a 0)) false, .at (.eq (.a 4) (.a 0)) false, .ge (.a 4) 0, .is (.wrap .i64 (.sub (.a 4) (.a 3))) (.ofNat 1099511627776)]) (ht : TabOK Try.prog val sl0 (tabW 40 false false true)) : Q val := leaf h ht (by kernel_rfl) (by kernel_rfl) (by kernel_rfl)
theorem d40_0010 {val : Nat → Int} (h : Holds val [.ge (.wrap .i64 (.add (.c (.ofNat 40)) (.a 5))) 65, .is (.a 1) (.ofNat 40), .ge (.a 5) 0, .le (.a 5) 63, .at (.eq (.a 3) (.a 4)) false, .at (.eq (.a 3) (.a 0)) false, .at (.eq (.a 4) (.a 0)) true, .ge (.a 4) 0, .is (.wrap .i64 (.sub (.a 4) (.a 3))) (.ofNat 1099511627776)]) (ht : TabOK Try.prog val sl0 (tabW 40 false true false)) : Q val := leaf h ht (by kernel_rfl) (by kernel_rfl) (by kernel_rfl)
theorem d40_0011 {val : Nat → Int} (h : Holds val [.le (.wrap .i64 (.add (.c (.ofNat 40)) (.a 5))) 64, .is (.a 1) (.ofNat 40), .ge (.a 5) 0, .le (.a 5) 63, .at (.eq (.a 3) (.a 4)) false, .at (.eq (.a 3) (.a 0)) false, .at (.eq (.a 4) (.a 0)) true, .ge (.a 4) 0, .is (.wrap .i64 (.sub (.a 4) (.a 3))) (.ofNat 1099511627776)]) (ht : TabOK Try.prog val sl0 (tabW 40 false true true)) : Q val := leaf h ht (by kernel_rfl) (by kernel_rfl) (by kernel_rfl)
theorem d40_0110 {val : Nat → Int} (h : Holds val [.ge (.wrap .i64 (.add (.c (.ofNat 40)) (.a 5))) 65, .is (.a 1) (.ofNat 40), .ge (.a 5) 0, .le (.a 5) 63, .at (.eq (.a 3) (.a 4)) false, .at (.eq (.a 3) (.a 0)) true, .ge (.a 4) 0, .is (.wrap .i64 (.sub (.a 4) (.a 3))) (.ofNat 1099511627776)]) (ht : TabOK Try.prog val sl0 (tabW 40 true true false)) : Q val := leaf h ht (by kernel_rfl) (by kernel_rfl) (by kernel_rfl)
theorem d40_0111 {val : Nat → Int} (h : Holds val [.le (.wrap .i64 (.add (.c (.ofNat 40)) (.a 5))) 64, .is (.a 1) (.ofNat 40), .ge (.a 5) 0, .le (.a 5) 63, .at (.eq (.a 3) (.a 4)) false, .at (.eq (.a 3) (.a 0)) true, .ge (.a 4) 0, .is (.wrap .i64 (.sub (.a 4) (.a 3))) (.ofNat 1099511627776)]) (ht : TabOK Try.prog val sl0 (tabW 40 true true true)) : Q val := leaf h ht (by kernel_rfl) (by kernel_rfl) (by kernel_rfl)
theorem d40_1000 {val : Nat → Int} (h : Holds val [.ge (.wrap .i64 (.add (.c (.ofNat 40)) (.a 5))) 65, .is (.a 1) (.ofNat 40), .ge (.a 5) 0, .le (.a 5) 63, .at (.eq (.a 3) (.a 4)) true, .at (.eq (.a 3) (.a 0)) false, .at (.eq (.a 4) (.a 0)) false, .ge (.a 4) 0]) (ht : TabOK Try.prog val sl0 (tabW 40 false false false)) : Q val := leaf h ht (by kernel_rfl) (by kernel_rfl) (by kernel_rfl)
theorem d40_1001 {val : Nat → Int} (h : Holds val [.le (.wrap .i64 (.add (.c (.ofNat 40)) (.a 5))) 64, .is (.a 1) (.ofNat 40), .ge (.a 5) 0, .le (.a 5) 63, .at (.eq (.a 3) (.a 4)) true, .at (.eq (.a 3) (.a 0)) false, .at (.eq (.a 4) (.a 0)) false, .ge (.a 4) 0]) (ht : TabOK Try.prog val sl0 (tabW 40 false false true)) : Q val := leaf h ht (by kernel_rfl) (by kernel_rfl) (by kernel_rfl)
theorem d40_1110 {val : Nat → Int} (h : Holds val [.ge (.wrap .i64 (.add (.c (.ofNat 40)) (.a 5))) 65, .is (.a 1) (.ofNat 40), .ge (.a 5) 0, .le (.a 5) 63, .at (.eq (.a 3) (.a 4)) true, .at (.eq (.a 3) (.a 0)) true, .ge (.a 4) 0]) (ht : TabOK Try.prog val sl0 (tabW 40 true true false)) : Q val := leaf h ht (by kernel_rfl) (by kernel_rfl) (by kernel_rfl)
theorem d40_1111 {val : Nat → Int} (h : Holds val [.le (.wrap .i64 (.add (.c (.ofNat 40)) (.a 5))) 64, .is (.a 1) (.ofNat 40), .ge (.a 5) 0, .le (.a 5) 63, .at (.eq (.a 3) (.a 4)) true, .at (.eq (.a 3) (.a 0)) true, .ge (.a 4) 0]) (ht : TabOK Try.prog val sl0 (tabW 40 true true true)) : Q val := leaf h ht (by kernel_rfl) (by kernel_rfl) (by kernel_rfl)

theorem d40 : D 40 := by
  intro val e fb wb w h ht h1 h2 h3
  cases e <;> cases fb <;> cases wb <;> cases w
  · exact d40_0000 h ht
  · exact d40_0001 h ht
  · exact d40_0010 h ht
  · exact d40_0011 h ht
  · simp at h1 h2 h3
  · simp at h1 h2 h3
  · exact d40_0110 h ht
  · exact d40_0111 h ht
  · exact d40_1000 h ht
  · exact d40_1001 h ht
  · simp at h1 h2 h3
  · simp at h1 h2 h3
  · simp at h1 h2 h3
  · simp at h1 h2 h3
  · exact d40_1110 h ht
  · exact d40_1111 h ht

theorem d41_0000 {val : Nat → Int} (h : Holds val [.ge (.wrap .i64 (.add (.c (.ofNat 41)) (.a 5))) 65, .is (.a 1) (.ofNat 41), .ge (.a 5) 0, .le (.a 5) 63, .at (.eq (.a 3) (.a 4)) false, .at (.eq (.a 3) (.a 0)) false, .at (.eq (.a 4) (.a 0)) false, .ge (.a 4) 0, .is (.wrap .i64 (.sub (.a 4) (.a 3))) (.ofNat 2199023255552)]) (ht : TabOK Try.prog val sl0 (tabW 41 false false false)) : Q val := leaf h ht (by kernel_rfl) (by kernel_rfl) (by kernel_rfl)
theorem d41_0001 {val : Nat → Int} (h : Holds val [.le (.wrap .i64 (.add (.c (.ofNat 41)) (.a 5))) 64, .is (.a 1) (.ofNat 41), .ge (.a 5) 0, .le (.a 5) 63, .at (.eq (.a 3) (.a 4)) false, .at (.eq (.a 3) (.a 0)) false, .at (.eq (.a 4) (.a 0)) false, .ge (.a 4) 0, .is (.wrap .i64 (.sub (.a 4) (.a 3))) (.ofNat 2199023255552)]) (ht : TabOK Try.prog val sl0 (tabW 41 false false true)) : Q val := leaf h ht (by kernel_rfl) (by kernel_rfl) (by kernel_rfl)
theorem d41_0010 {val : Nat → Int} (h : Holds val [.ge (.wrap .i64 (.add (.c (.ofNat 41)) (.a 5))) 65, .is (.a 1) (.ofNat 41), .ge (.a 5) 0, .le (.a 5) 63, .at (.eq (.a 3) (.a 4)) false, .at (.eq (.a 3) (.a 0)) false, .at (.eq (.a 4) (.a 0)) true, .ge (.a 4) 0, .is (.wrap .i64 (.sub (.a 4) (.a 3))) (.ofNat 2199023255552)]) (ht : TabOK Try.prog val sl0 (tabW 41 false true false)) : Q val := leaf h ht (by kernel_rfl) (by kernel_rfl) (by kernel_rfl)
theorem d41_0011 {val : Nat → Int} (h : Holds val [.le (.wrap .i64 (.add (.c (.ofNat 41)) (.a 5))) 64, .is (.a 1) (.ofNat 41), .ge (.a 5) 0, .le (.a 5) 63, .at (.eq (.a 3) (.a 4)) false, .at (.eq (.a 3) (.a 0)) false, .at (.eq (.a 4) (.a 0)) true, .ge (.a 4) 0, .is (.wrap .i64 (.sub (.a 4) (.a 3))) (.ofNat 2199023255552)]) (ht : TabOK Try.prog val sl0 (tabW 41 false true true)) : Q val := leaf h ht (by kernel_rfl) (by kernel_rfl) (by kernel_rfl)
theorem d41_0110 {val : Nat → Int} (h : Holds val [.ge (.wrap .i64 (.add (.c (.ofNat 41)) (.a 5))) 65, .is (.a 1) (.ofNat 41), .ge (.a 5) 0, .le (.a 5) 63, .at (.eq (.a 3) (.a 4)) false, .at (.eq (.a 3) (.a 0)) true, .ge (.a 4) 0, .is (.wrap .i64 (.sub (.a 4) (.a 3))) (.ofNat 2199023255552)]) (ht : TabOK Try.prog val sl0 (tabW 41 true true false)) : Q val := leaf h ht (by kernel_rfl) (by kernel_rfl) (by kernel_rfl)
theorem d41_0111 {val : Nat → Int} (h : Holds val [.le (.wrap .i64 (.add (.c (.ofNat 41)) (.a 5))) 64, .is (.a 1) (.ofNat 41), .ge (.a 5) 0, .le (.a 5) 63, .at (.eq (.a 3) (.a 4)) false, .at (.eq (.a 3) (.a 0)) true, .ge (.a 4) 0, .is (.wrap .i64 (.sub (.a 4) (.a 3))) (.ofNat 2199023255552)]) (ht : TabOK Try.prog val sl0 (tabW 41 true true true)) : Q val := leaf h ht (by kernel_rfl) (by kernel_rfl) (by kernel_rfl)
theorem d41_1000 {val : Nat → Int} (h : Holds val [.ge (.wrap .i64 (.add (.c (.ofNat 41)) (.a 5))) 65, .is (.a 1) (.ofNat 41), .ge (.a 5) 0, .le (.a 5) 63, .at (.eq (.a 3) (.a 4)) true, .at (.eq (.a 3) (.a 0)) false, .at (.eq (.a 4) (.a 0)) false, .ge (.a 4) 0]) (ht : TabOK Try.prog val sl0 (tabW 41 false false false)) : Q val := leaf h ht (by kernel_rfl) (by kernel_rfl) (by kernel_rfl)
theorem d41_1001 {val : Nat → Int} (h : Holds val [.le (.wrap .i64 (.add (.c (.ofNat 41)) (.a 5))) 64, .is (.a 1) (.ofNat 41), .ge (.a 5) 0, .le (.a 5) 63, .at (.eq (.a 3) (.a 4)) true, .at (.eq (.a 3) (.a 0)) false, .at (.eq (.a 4) (.a 0)) false, .ge (.a 4) 0]) (ht : TabOK Try.prog val sl0 (tabW 41 false false true)) : Q val := leaf h ht (by kernel_rfl) (by kernel_rfl) (by kernel_rfl)
theorem d41_1110 {val : Nat → Int} (h : Holds val [.ge (.wrap .i64 (.add (.c (.ofNat 41)) (.a 5))) 65, .is (.a 1) (.ofNat 41), .ge (.a 5) 0, .le (.a 5) 63, .at (.eq (.a 3) (.a 4)) true, .at (.eq (.a 3) (.a 0)) true, .ge (.a 4) 0]) (ht : TabOK Try.prog val sl0 (tabW 41 true true false)) : Q val := leaf h ht (by kernel_rfl) (by kernel_rfl) (by kernel_rfl)
theorem d41_1111 {val : Nat → Int} (h : Holds val [.le (.wrap .i64 (.add (.c (.ofNat 41)) (.a 5))) 64, .is (.a 1) (.ofNat 41), .ge (.a 5) 0, .le (.a 5) 63, .at (.eq (.a 3) (.a 4)) true, .at (.eq (.a 3) (.a 0)) true, .ge (.a 4) 0]) (ht : TabOK Try.prog val sl0 (tabW 41 true true true)) : Q val := leaf h ht (by kernel_rfl) (by kernel_rfl) (by kernel_rfl)

theorem d41 : D 41 := by
  intro val e fb wb w h ht h1 h2 h3
  cases e <;> cases fb <;> cases wb <;> cases w
  · exact d41_0000 h ht
  · exact d41_0001 h ht
  · exact d41_0010 h ht
  · exact d41_0011 h ht
  · simp at h1 h2 h3
  · simp at h1 h2 h3
  · exact d41_0110 h ht
  · exact d41_0111 h ht
  · exact d41_1000 h ht
  · exact d41_1001 h ht
  · simp at h1 h2 h3
  · simp at h1 h2 h3
  · simp at h1 h2 h3
  · simp at h1 h2 h3
  · exact d41_1110 h ht
  · exact d41_1111 h ht

theorem d42_0000 {val : Nat → Int} (h : Holds val [.ge (.wrap .i64 (.add (.c (.ofNat 42)) (.a 5))) 65, .is (.a 1) (.ofNat 42), .ge (.a 5) 0, .le (.a 5) 63, .at (.eq (.a 3) (.a 4)) false, .at (.eq (.a 3) (.a 0)) false, .at (.eq (.a 4) (.a 0)) false, .ge (.a 4) 0, .is (.wrap .i64 (.sub (.a 4) (.a 3))) (.ofNat 4398046511104)]) (ht : TabOK Try.prog val sl0 (tabW 42 false false false)) : Q val := leaf h ht (by kernel_rfl) (by kernel_rfl) (by kernel_rfl)
theorem d42_0001 {val : Nat → Int} (h : Holds val [.le (.wrap .i64 (.add (.c (.ofNat 42)) (.a 5))) 64, .is (.a 1) (.ofNat 42), .ge (.a 5) 0, .le (.a 5) 63, .at (.eq (.a 3) (.a 4)) false, .at (.eq (.a 3) (.a 0)) false, .at (.eq (.a 4) (.a 0)) false, .ge (.a 4) 0, .is (.wrap .i64 (.sub (.a 4) (.a 3))) (.ofNat 4398046511104)]) (ht : TabOK Try.prog val sl0 (tabW 42 false false true)) : Q val := leaf h ht (by kernel_rfl) (by kernel_rfl) (by kernel_rfl)
theorem d42_0010 {val : Nat → Int} (h : Holds val [.ge (.wrap .i64 (.add (.c (.ofNat 42)) (.a 5))) 65, .is (.a 1) (.ofNat 42), .ge (.a 5) 0, .le (.a 5) 63, .at (.eq (.a 3) (.a 4)) false, .at (.eq (.a 3) (.a 0)) false, .at (.eq (.a 4) (.a 0)) true, .ge (.a 4) 0, .is (.wrap .i64 (.sub (.a 4) (.a 3))) (.ofNat 4398046511104)]) (ht : TabOK Try.prog val sl0 (tabW 42 false true false)) : Q val := leaf h ht (by kernel_rfl) (by kernel_rfl) (by kernel_rfl)
theorem d42_0011 {val : Nat → Int} (h : Holds val [.le (.wrap .i64 (.add (.c (.ofNat 42)) (.a 5))) 64, .is (.a 1) (.ofNat 42), .ge (.a 5) 0, .le (.a 5) 63, .at (.eq (.a 3) (.a 4)) false, .at (.eq (.a 3) (.a 0)) false, .at (.eq (.a 4) (.a 0)) true, .ge (.a 4) 0, .is (.wrap .i64 (.sub (.a 4) (.a 3))) (.ofNat 4398046511104)]) (ht : TabOK Try.prog val sl0 (tabW 42 false true true)) : Q val := leaf h ht (by kernel_rfl) (by kernel_rfl) (by kernel_rfl)
theorem d42_0110 {val : Nat → Int} (h : Holds val [.ge (.wrap .i64 (.add (.c (.ofNat 42)) (.a 5))) 65, .is (.a 1) (.ofNat 42), .ge (.a 5) 0, .le (.a 5) 63, .at (.eq (.a 3) (.a 4)) false, .at (.eq (.a 3) (.a 0)) true, .ge (.a 4) 0, .is (.wrap .i64 (.sub (.a 4) (.a 3))) (.ofNat 4398046511104)]) (ht : TabOK Try.prog val sl0 (tabW 42 true true false)) : Q val := leaf h ht (by kernel_rfl) (by kernel_rfl) (by kernel_rfl)
theorem d42_0111 {val : Nat → Int} (h : Holds val [.le (.wrap .i64 (.add (.c (.ofNat 42)) (.a 5))) 64, .is (.a 1) (.ofNat 42), .ge (.a 5) 0, .le (.a 5) 63, .at (.eq (.a 3) (.a 4)) false, .at (.eq (.a 3) (.a 0)) true, .ge (.a 4) 0, .is (.wrap .i64 (.sub (.a 4) (.a 3))) (.ofNat 4398046511104)]) (ht : TabOK Try.prog val sl0 (tabW 42 true true true)) : Q val := leaf h ht (by kernel_rfl) (by kernel_rfl) (by kernel_rfl)
theorem d42_1000 {val : Nat → Int} (h : Holds val [.ge (.wrap .i64 (.add (.c (.ofNat 42)) (.a 5))) 65, .is (.a 1) (.ofNat 42), .ge (.a 5) 0, .le (.a 5) 63, .at (.eq (.a 3) (.a 4)) true, .at (.eq (.a 3) (.a 0)) false, .at (.eq (.a 4) (.a 0)) false, .ge (.a 4) 0]) (ht : TabOK Try.prog val sl0 (tabW 42 false false false)) : Q val := leaf h ht (by kernel_rfl) (by kernel_rfl) (by kernel_rfl)
theorem d42_1001 {val : Nat → Int} (h : Holds val [.le (.wrap .i64 (.add (.c (.ofNat 42)) (.a 5))) 64, .is (.a 1) (.ofNat 42), .ge (.a 5) 0, .le (.a 5) 63, .at (.eq (.a 3) (.a 4)) true, .at (.eq (.a 3) (.a 0)) false, .at (.eq (.a 4) (.a 0)) false, .ge (.a 4) 0]) (ht : TabOK Try.prog val sl0 (tabW 42 false false true)) : Q val := leaf h ht (by kernel_rfl) (by kernel_rfl) (by kernel_rfl)
theorem d42_1110 {val : Nat → Int} (h : Holds val [.ge (.wrap .i64 (.add (.c (.ofNat 42)) (.a 5))) 65, .is (.a 1) (.ofNat 42), .ge (.a 5) 0, .le (.a 5) 63, .at (.eq (.a 3) (.a 4)) true, .at (.eq (.a 3) (.a 0)) true, .ge (.a 4) 0]) (ht : TabOK Try.prog val sl0 (tabW 42 true true false)) : Q val := leaf h ht (by kernel_rfl) (by kernel_rfl) (by kernel_rfl)
theorem d42_1111 {val : Nat → Int} (h : Holds val [.le (.wrap .i64 (.add (.c (.ofNat 42)) (.a 5))) 64, .is (.a 1) (.ofNat 42), .ge (.a 5) 0, .le (.a 5) 63, .at (.eq (.a 3) (.a 4)) true, .at (.eq (.a 3) (.a 0)) true, .ge (.a 4) 0]) (ht : TabOK Try.prog val sl0 (tabW 42 true true true)) : Q val := leaf h ht (by kernel_rfl) (by kernel_rfl) (by kernel_rfl)

theorem d42 : D 42 := by
  intro val e fb wb w h ht h1 h2 h3
  cases e <;> cases fb <;> cases wb <;> cases w
  · exact d42_0000 h ht
  · exact d42_0001 h ht
  · exact d42_0010 h ht
  · exact d42_0011 h ht
  · simp at h1 h2 h3
  · simp at h1 h2 h3
  · exact d42_0110 h ht
  · exact d42_0111 h ht
  · exact d42_1000 h ht
  · exact d42_1001 h ht
  · simp at h1 h2 h3
  · simp at h1 h2 h3
  · simp at h1 h2 h3
  · simp at h1 h2 h3
  · exact d42_1110 h ht
  · exact d42_1111 h ht

theorem d43_0000 {val : Nat → Int} (h : Holds val [.ge (.wrap .i64 (.add (.c (.ofNat 43)) (.a 5))) 65, .is (.a 1) (.ofNat 43), .ge (.a 5) 0, .le (.a 5) 63, .at (.eq (.a 3) (.a 4)) false, .at (.eq (.a 3) (.a 0)) false, .at (.eq (.a 4) (.a 0)) false, .ge (.a 4) 0, .is (.wrap .i64 (.sub (.a 4) (.a 3))) (.ofNat 8796093022208)]) (ht : TabOK Try.prog val sl0 (tabW 43 false false false)) : Q val := leaf h ht (by kernel_rfl) (by kernel_rfl) (by kernel_rfl)
theorem d43_0001 {val : Nat → Int} (h : Holds val [.le (.wrap .i64 (.add (.c (.ofNat 43)) (.a 5))) 64, .is (.a 1) (.ofNat 43), .ge (.a 5) 0, .le (.a 5) 63, .at (.eq (.a 3) (.a 4)) false, .at (.eq (.a 3) (.a 0)) false, .at (.eq (.a 4) (.a 0)) false, .ge (.a 4) 0, .is (.wrap .i64 (.sub (.a 4) (.a 3))) (.ofNat 8796093022208)]) (ht : TabOK Try.prog val sl0 (tabW 43 false false true)) : Q val := leaf h ht (by kernel_rfl) (by kernel_rfl) (by kernel_rfl)
theorem d43_0010 {val : Nat → Int} (h : Holds val [.ge (.wrap .i64 (.add (.c (.ofNat 43)) (.a 5))) 65, .is (.a 1) (.ofNat 43), .ge (.a 5) 0, .le (.a 5) 63, .at (.eq (.a 3) (.a 4)) false, .at (.eq (.a 3) (.a 0)) false, .at (.eq (.a 4) (.a 0)) true, .ge (.a 4) 0, .is (.wrap .i64 (.sub (.a 4) (.a 3))) (.ofNat 8796093022208)]) (ht : TabOK Try.prog val sl0 (tabW 43 false true false)) : Q val := leaf h ht (by kernel_rfl) (by kernel_rfl) (by kernel_rfl)
theorem d43_0011 {val : Nat → Int} (h : Holds val [.le (.wrap .i64 (.add (.c (.ofNat 43)) (.a 5))) 64, .is (.a 1) (.ofNat 43), .ge (.a 5) 0, .le (.a 5) 63, .at (.eq (.a 3) (.a 4)) false, .at (.eq (.a 3) (.a 0)) false, .at (.eq (.a 4) (.a 0)) true, .ge (.a 4) 0, .is (.wrap .i64 (.sub (.a 4) (.a 3))) (.ofNat 8796093022208)]) (ht : TabOK Try.prog val sl0 (tabW 43 false true true)) : Q val := leaf h ht (by kernel_rfl) (by kernel_rfl) (by kernel_rfl)
theorem d43_0110 {val : Nat → Int} (h : Holds val [.ge (.wrap .i64 (.add (.c (.ofNat 43)) (.a 5))) 65, .is (.a 1) (.ofNat 43), .ge (.a 5) 0, .le (.a 5) 63, .at (.eq (.a 3) (.a 4)) false, .at (.eq (.a 3) (.a 0)) true, .ge (.a 4) 0, .is (.wrap .i64 (.sub (.a 4) (.a 3))) (.ofNat 8796093022208)]) (ht : TabOK Try.prog val sl0 (tabW 43 true true false)) : Q val := leaf h ht (by kernel_rfl) (by kernel_rfl) (by kernel_rfl)
theorem d43_0111 {val : Nat → Int} (h : Holds val [.le (.wrap .i64 (.add (.c (.ofNat 43)) (.a 5))) 64, .is (.a 1) (.ofNat 43), .ge (.a 5) 0, .le (.a 5) 63, .at (.eq (.a 3) (.a 4)) false, .at (.eq (.a 3) (.a 0)) true, .ge (.a 4) 0, .is (.wrap .i64 (.sub (.a 4) (.a 3))) (.ofNat 8796093022208)]) (ht : TabOK Try.prog val sl0 (tabW 43 true true true)) : Q val := leaf h ht (by kernel_rfl) (by kernel_rfl) (by kernel_rfl)
theorem d43_1000 {val : Nat → Int} (h : Holds val [.ge (.wrap .i64 (.add (.c (.ofNat 43)) (.a 5))) 65, .is (.a 1) (.ofNat 43), .ge (.a 5) 0, .le (.a 5) 63, .at (.eq (.a 3) (.a 4)) true, .at (.eq (.a 3) (.a 0)) false, .at (.eq (.a 4) (.a 0)) false, .ge (.a 4) 0]) (ht : TabOK Try.prog val sl0 (tabW 43 false false false)) : Q val := leaf h ht (by kernel_rfl) (by kernel_rfl) (by kernel_rfl)
theorem d43_1001 {val : Nat → Int} (h : Holds val [.le (.wrap .i64 (.add (.c (.ofNat 43)) (.a 5))) 64, .is (.a 1) (.ofNat 43), .ge (.a 5) 0, .le (.a 5) 63, .at (.eq (.a 3) (.a 4)) true, .at (.eq (.a 3) (.a 0)) false, .at (.eq (.a 4) (.a 0)) false, .ge (.a 4) 0]) (ht : TabOK Try.prog val sl0 (tabW 43 false false true)) : Q val := leaf h ht (by kernel_rfl) (by kernel_rfl) (by kernel_rfl)
theorem d43_1110 {val : Nat → Int} (h : Holds val [.ge (.wrap .i64 (.add (.c (.ofNat 43)) (.a 5))) 65, .is (.a 1) (.ofNat 43), .ge (.a 5) 0, .le (.a 5) 63, .at (.eq (.a 3) (.a 4)) true, .at (.eq (.a 3) (.a 0)) true, .ge (.a 4) 0]) (ht : TabOK Try.prog val sl0 (tabW 43 true true false)) : Q val := leaf h ht (by kernel_rfl) (by kernel_rfl) (by kernel_rfl)
theorem d43_1111 {val : Nat → Int} (h : Holds val [.le (.wrap .i64 (.add (.c (.ofNat 43)) (.a 5))) 64, .is (.a 1) (.ofNat 43), .ge (.a 5) 0, .le (.a 5) 63, .at (.eq (.a 3) (.a 4)) true, .at (.eq (.a 3) (.a 0)) true, .ge (.a 4) 0]) (ht : TabOK Try.prog val sl0 (tabW 43 true true true)) : Q val := leaf h ht (by kernel_rfl) (by kernel_rfl) (by kernel_rfl)

theorem d43 : D 43 := by
  intro val e fb wb w h ht h1 h2 h3
  cases e <;> cases fb <;> cases wb <;> cases w
  · exact d43_0000 h ht
  · exact d43_0001 h ht
  · exact d43_0010 h ht
  · exact d43_0011 h ht
  · simp at h1 h2 h3
  · simp at h1 h2 h3
  · exact d43_0110 h ht
  · exact d43_0111 h ht
  · exact d43_1000 h ht
  · exact d43_1001 h ht
  · simp at h1 h2 h3
  · simp at h1 h2 h3
  · simp at h1 h2 h3
  · simp at h1 h2 h3
  · exact d43_1110 h ht
  · exact d43_1111 h ht

theorem d44_0000 {val : Nat → Int} (h : Holds val [.ge (.wrap .i64 (.add (.c (.ofNat 44)) (.a 5))) 65, .is (.a 1) (.ofNat 44), .ge (.a 5) 0, .le (.a 5) 63, .at (.eq (.a 3) (.a 4)) false, .at (.eq (.a 3) (.a 0)) false, .at (.eq (.a 4) (.a 0)) false, .ge (.a 4) 0, .is (.wrap .i64 (.sub (.a 4) (.a 3))) (.ofNat 17592186044416)]) (ht : TabOK Try.prog val sl0 (tabW 44 false false false)) : Q val := leaf h ht (by kernel_rfl) (by kernel_rfl) (by kernel_rfl)
theorem d44_0001 {val : Nat → Int} (h : Holds val [.le (.wrap .i64 (.add (.c (.ofNat 44)) (.a 5))) 64, .is (.a 1) (.ofNat 44), .ge (.a 5) 0, .le (.a 5) 63, .at (.eq (.a 3) (.a 4)) false, .at (.eq (.a 3) (.a 0)) false, .at (.eq (.a 4) (.a 0)) false, .ge (.a 4) 0, .is (.wrap .i64 (.sub (.a 4) (.a 3))) (.ofNat 17592186044416)]) (ht : TabOK Try.prog val sl0 (tabW 44 false false true)) : Q val := leaf h ht (by kernel_rfl) (by kernel_rfl) (by kernel_rfl)
theorem d44_0010 {val : Nat → Int} (h : Holds val [.ge (.wrap .i64 (.add (.c (.ofNat 44)) (.a 5))) 65, .is (.a 1) (.ofNat 44), .ge (.a 5) 0, .le (.a 5) 63, .at (.eq (.a 3) (.a 4)) false, .at (.eq (.a 3) (.a 0)) false, .at (.eq (.a 4) (.a 0)) true, .ge (.a 4) 0, .is (.wrap .i64 (.sub (.a 4) (.a 3))) (.ofNat 17592186044416)]) (ht : TabOK Try.prog val sl0 (tabW 44 false true false)) : Q val := leaf h ht (by kernel_rfl) (by kernel_rfl) (by kernel_rfl)
theorem d44_0011 {val : Nat → Int} (h : Holds val [.le (.wrap .i64 (.add (.c (.ofNat 44)) (.a 5))) 64, .is (.a 1) (.ofNat 44), .ge (.a 5) 0, .le (.a 5) 63, .at (.eq (.a 3) (.a 4)) false, .at (.eq (.a 3) (.a 0)) false, .at (.eq (.a 4) (.a 0)) true, .ge (.a 4) 0, .is (.wrap .i64 (.sub (.a 4) (.a 3))) (.ofNat 17592186044416)]) (ht : TabOK Try.prog val sl0 (tabW 44 false true true)) : Q val := leaf h ht (by kernel_rfl) (by kernel_rfl) (by kernel_rfl)
theorem d44_0110 {val : Nat → Int} (h : Holds val [.ge (.wrap .i64 (.add (.c (.ofNat 44)) (.a 5))) 65, .is (.a 1) (.ofNat 44), .ge (.a 5) 0, .le (.a 5) 63, .at (.eq (.a 3) (.a 4)) false, .at (.eq (.a 3) (.a 0)) true, .ge (.a 4) 0, .is (.wrap .i64 (.sub (.a 4) (.a 3))) (.ofNat 17592186044416)]) (ht : TabOK Try.prog val sl0 (tabW 44 true true false)) : Q val := leaf h ht (by kernel_rfl) (by kernel_rfl) (by kernel_rfl)
theorem d44_0111 {val : Nat → Int} (h : Holds val [.le (.wrap .i64 (.add (.c (.ofNat 44)) (.a 5))) 64, .is (.a 1) (.ofNat 44), .ge (.a 5) 0, .le (.a 5) 63, .at (.eq (.a 3) (.a 4)) false, .at (.eq (.a 3) (.a 0)) true, .ge (.a 4) 0, .is (.wrap .i64 (.sub (.a 4) (.a 3))) (.ofNat 17592186044416)]) (ht : TabOK Try.prog val sl0 (tabW 44 true true true)) : Q val := leaf h ht (by kernel_rfl) (by kernel_rfl) (by kernel_rfl)
theorem d44_1000 {val : Nat → Int} (h : Holds val [.ge (.wrap .i64 (.add (.c (.ofNat 44)) (.a 5))) 65, .is (.a 1) (.ofNat 44), .ge (.a 5) 0, .le (.a 5) 63, .at (.eq (.a 3) (.a 4)) true, .at (.eq (.a 3) (.a 0)) false, .at (.eq (.a 4) (.a 0)) false, .ge (.a 4) 0]) (ht : TabOK Try.prog val sl0 (tabW 44 false false false)) : Q val := leaf h ht (by kernel_rfl) (by kernel_rfl) (by kernel_rfl)
theorem d44_1001 {val : Nat → Int} (h : Holds val [.le (.wrap .i64 (.add (.c (.ofNat 44)) (.a 5))) 64, .is (.a 1) (.ofNat 44), .ge (.a 5) 0, .le (.a 5) 63, .at (.eq (.a 3) (.a 4)) true, .at (.eq (.a 3) (.a 0)) false, .at (.eq (.a 4) (.a 0)) false, .ge (.a 4) 0]) (ht : TabOK Try.prog val sl0 (tabW 44 false false true)) : Q val := leaf h ht (by kernel_rfl) (by kernel_rfl) (by kernel_rfl)
theorem d44_1110 {val : Nat → Int} (h : Holds val [.ge (.wrap .i64 (.add (.c (.ofNat 44)) (.a 5))) 65, .is (.a 1) (.ofNat 44), .ge (.a 5) 0, .le (.a 5) 63, .at (.eq (.a 3) (.a 4)) true, .at (.eq (.a 3) (.a 0)) true, .ge (.a 4) 0]) (ht : TabOK Try.prog val sl0 (tabW 44 true true false)) : Q val := leaf h ht (by kernel_rfl) (by kernel_rfl) (by kernel_rfl)
theorem d44_1111 {val : Nat → Int} (h : Holds val [.le (.wrap .i64 (.add (.c (.ofNat 44)) (.a 5))) 64, .is (.a 1) (.ofNat 44), .ge (.a 5) 0, .le (.a 5) 63, .at (.eq (.a 3) (.a 4)) true, .at (.eq (.a 3) (.a 0)) true, .ge (.a 4) 0]) (ht : TabOK Try.prog val sl0 (tabW 44 true true true)) : Q val := leaf h ht (by kernel_rfl) (by kernel_rfl) (by kernel_rfl)

theorem d44 : D 44 := by
  intro val e fb wb w h ht h1 h2 h3
  cases e <;> cases fb <;> cases wb <;> cases w
  · exact d44_0000 h ht
  · exact d44_0001 h ht
  · exact d44_0010 h ht
  · exact d44_0011 h ht
  · simp at h1 h2 h3
  · simp at h1 h2 h3
  · exact d44_0110 h ht
  · exact d44_0111 h ht
  · exact d44_1000 h ht
  · exact d44_1001 h ht
  · simp at h1 h2 h3
  · simp at h1 h2 h3
  · simp at h1 h2 h3
  · simp at h1 h2 h3
  · exact d44_1110 h ht
  · exact d44_1111 h ht

theorem d45_0000 {val : Nat → Int} (h : Holds val [.ge (.wrap .i64 (.add (.c (.ofNat 45)) (.a 5))) 65, .is (.a 1) (.ofNat 45), .ge (.a 5) 0, .le (.a 5) 63, .at (.eq (.a 3) (.a 4)) false, .at (.eq (.a 3) (.a 0)) false, .at (.eq (.a 4) (.a 0)) false, .ge (.a 4) 0, .is (.wrap .i64 (.sub (.a 4) (.a 3))) (.ofNat 35184372088832)]) (ht : TabOK Try.prog val sl0 (tabW 45 false false false)) : Q val := leaf h ht (by kernel_rfl) (by kernel_rfl) (by kernel_rfl)
theorem d45_0001 {val : Nat → Int} (h : Holds val [.le (.wrap .i64 (.add (.c (.ofNat 45)) (.a 5))) 64, .is (.a 1) (.ofNat 45), .ge (.a 5) 0, .le (.a 5) 63, .at (.eq (.a 3) (.a 4)) false, .at (.eq (.a 3) (.a 0)) false, .at (.eq (.a 4) (.a 0)) false, .ge (.a 4) 0, .is (.wrap .i64 (.sub (.a 4) (.a 3))) (.ofNat 35184372088832)]) (ht : TabOK Try.prog val sl0 (tabW 45 false false true)) : Q val := leaf h ht (by kernel_rfl) (by kernel_rfl) (by kernel_rfl)
theorem d45_0010 {val : Nat → Int} (h : Holds val [.ge (.wrap .i64 (.add (.c (.ofNat 45)) (.a 5))) 65, .is (.a 1) (.ofNat 45), .ge (.a 5) 0, .le (.a 5) 63, .at (.eq (.a 3) (.a 4)) false, .at (.eq (.a 3) (.a 0)) false, .at (.eq (.a 4) (.a 0)) true, .ge (.a 4) 0, .is (.wrap .i64 (.sub (.a 4) (.a 3))) (.ofNat 35184372088832)]) (ht : TabOK Try.prog val sl0 (tabW 45 false true false)) : Q val := leaf h ht (by kernel_rfl) (by kernel_rfl) (by kernel_rfl)
theorem d45_0011 {val : Nat → Int} (h : Holds val [.le (.wrap .i64 (.add (.c (.ofNat 45)) (.a 5))) 64, .is (.a 1) (.ofNat 45), .ge (.a 5) 0, .le (.a 5) 63, .at (.eq (.a 3) (.a 4)) false, .at (.eq (.a 3) (.a 0)) false, .at (.eq (.a 4) (.a 0)) true, .ge (.a 4) 0, .is (.wrap .i64 (.sub (.a 4) (.a 3))) (.ofNat 35184372088832)]) (ht : TabOK Try.prog val sl0 (tabW 45 false true true)) : Q val := leaf h ht (by kernel_rfl) (by kernel_rfl) (by kernel_rfl)
theorem d45_0110 {val : Nat → Int} (h : Holds val [.ge (.wrap .i64 (.add (.c (.ofNat 45)) (.a 5))) 65, .is (.a 1) (.ofNat 45), .ge (.a 5) 0, .le (.a 5) 63, .at (.eq (.a 3) (.a 4)) false, .at (.eq (.a 3) (.a 0)) true, .ge (.a 4) 0, .is (.wrap .i64 (.sub (.a 4) (.a 3))) (.ofNat 35184372088832)]) (ht : TabOK Try.prog val sl0 (tabW 45 true true false)) : Q val := leaf h ht (by kernel_rfl) (by kernel_rfl) (by kernel_rfl)
theorem d45_0111 {val : Nat → Int} (h : Holds val [.le (.wrap .i64 (.add (.c (.ofNat 45)) (.a 5))) 64, .is (.a 1) (.ofNat 45), .ge (.a 5) 0, .le (.a 5) 63, .at (.eq (.a 3) (.a 4)) false, .at (.eq (.a 3) (.a 0)) true, .ge (.a 4) 0, .is (.wrap .i64 (.sub (.a 4) (.a 3))) (.ofNat 35184372088832)]) (ht : TabOK Try.prog val sl0 (tabW 45 true true true)) : Q val := leaf h ht (by kernel_rfl) (by kernel_rfl) (by kernel_rfl)
theorem d45_1000 {val : Nat → Int} (h : Holds val [.ge (.wrap .i64 (.add (.c (.ofNat 45)) (.a 5))) 65, .is (.a 1) (.ofNat 45), .ge (.a 5) 0, .le (.a 5) 63, .at (.eq (.a 3) (.a 4)) true, .at (.eq (.a 3) (.a 0)) false, .at (.eq (.a 4) (.a 0)) false, .ge (.a 4) 0]) (ht : TabOK Try.prog val sl0 (tabW 45 false false false)) : Q val := leaf h ht (by kernel_rfl) (by kernel_rfl) (by kernel_rfl)
theorem d45_1001 {val : Nat → Int} (h : Holds val [.le (.wrap .i64 (.add (.c (.ofNat 45)) (.a 5))) 64, .is (.a 1) (.ofNat 45), .ge (.a 5) 0, .le (.a 5) 63, .at (.eq (.a 3) (.a 4)) true, .at (.eq (.a 3) (.a 0)) false, .at (.eq (.a 4) (.a 0)) false, .ge (.a 4) 0]) (ht : TabOK Try.prog val sl0 (tabW 45 false false true)) : Q val := leaf h ht (by kernel_rfl) (by kernel_rfl) (by kernel_rfl)
theorem d45_1110 {val : Nat → Int} (h : Holds val [.ge (.wrap .i64 (.add (.c (.ofNat 45)) (.a 5))) 65, .is (.a 1) (.ofNat 45), .ge (.a 5) 0, .le (.a 5) 63, .at (.eq (.a 3) (.a 4)) true, .at (.eq (.a 3) (.a 0)) true, .ge (.a 4) 0]) (ht : TabOK Try.prog val sl0 (tabW 45 true true false)) : Q val := leaf h ht (by kernel_rfl) (by kernel_rfl) (by kernel_rfl)
theorem d45_1111 {val : Nat → Int} (h : Holds val [.le (.wrap .i64 (.add (.c (.ofNat 45)) (.a 5))) 64, .is (.a 1) (.ofNat 45), .ge (.a 5) 0, .le (.a 5) 63, .at (.eq (.a 3) (.a 4)) true, .at (.eq (.a 3) (.a 0)) true, .ge (.a 4) 0]) (ht : TabOK Try.prog val sl0 (tabW 45 true true true)) : Q val := leaf h ht (by kernel_rfl) (by kernel_rfl) (by kernel_rfl)

theorem d45 : D 45 := by
  intro val e fb wb w h ht h1 h2 h3
  cases e <;> cases fb <;> cases wb <;> cases w
  · exact d45_0000 h ht
  · exact d45_0001 h ht
  · exact d45_0010 h ht
  · exact d45_0011 h ht
  · simp at h1 h2 h3
  · simp at h1 h2 h3
  · exact d45_0110 h ht
  · exact d45_0111 h ht
  · exact d45_1000 h ht
  · exact d45_1001 h ht
  · simp at h1 h2 h3
  · simp at h1 h2 h3
  · simp at h1 h2 h3
  · simp at h1 h2 h3
  · exact d45_1110 h ht
  · exact d45_1111 h ht

theorem d46_0000 {val : Nat → Int} (h : Holds val [.ge (.wrap .i64 (.add (.c (.ofNat 46)) (.a 5))) 65, .is (.a 1) (.ofNat 46), .ge (.a 5) 0, .le (.a 5) 63, .at (.eq (.a 3) (.a 4)) false, .at (.eq (.a 3) (.a 0)) false, .at (.eq (.a 4) (.a 0)) false, .ge (.a 4) 0, .is (.wrap .i64 (.sub (.a 4) (.a 3))) (.ofNat 70368744177664)]) (ht : TabOK Try.prog val sl0 (tabW 46 false false false)) : Q val := leaf h ht (by kernel_rfl) (by kernel_rfl) (by kernel_rfl)
theorem d46_0001 {val : Nat → Int} (h : Holds val [.le (.wrap .i64 (.add (.c (.ofNat 46)) (.a 5))) 64, .is (.a 1) (.ofNat 46), .ge (.a 5) 0, .le (.a 5) 63, .at (.eq (.a 3) (.a 4)) false, .at (.eq (.a 3) (.a 0)) false, .at (.eq (.a 4) (.a 0)) false, .ge (.a 4) 0, .is (.wrap .i64 (.sub (.a 4) (.a 3))) (.ofNat 70368744177664)]) (ht : TabOK Try.prog val sl0 (tabW 46 false false true)) : Q val := leaf h ht (by kernel_rfl) (by kernel_rfl) (by kernel_rfl)
theorem d46_0010 {val : Nat → Int} (h : Holds val [.ge (.wrap .i64 (.add (.c (.ofNat 46)) (.a 5))) 65, .is (.a 1) (.ofNat 46), .ge (.a 5) 0, .le (.a 5) 63, .at (.eq (.a 3) (.a 4)) false, .at (.eq (.a 3) (.a 0)) false, .at (.eq (.a 4) (.a 0)) true, .ge (.a 4) 0, .is (.wrap .i64 (.sub (.a 4) (.a 3))) (.ofNat 70368744177664)]) (ht : TabOK Try.prog val sl0 (tabW 46 false true false)) : Q val := leaf h ht (by kernel_rfl) (by kernel_rfl) (by kernel_rfl)
theorem d46_0011 {val : Nat → Int} (h : Holds val [.le (.wrap .i64 (.add (.c (.ofNat 46)) (.a 5))) 64, .is (.a 1) (.ofNat 46), .ge (.a 5) 0, .le (.a 5) 63, .at (.eq (.a 3) (.a 4)) false, .at (.eq (.a 3) (.a 0)) false, .at (.eq (.a 4) (.a 0)) true, .ge (.a 4) 0, .is (.wrap .i64 (.sub (.a 4) (.a 3))) (.ofNat 70368744177664)]) (ht : TabOK Try.prog val sl0 (tabW 46 false true true)) : Q val := leaf h ht (by kernel_rfl) (by kernel_rfl) (by kernel_rfl)
theorem d46_0110 {val : Nat → Int} (h : Holds val [.ge (.wrap .i64 (.add (.c (.ofNat 46)) (.a 5))) 65, .is (.a 1) (.ofNat 46), .ge (.a 5) 0, .le (.a 5) 63, .at (.eq (.a 3) (.a 4)) false, .at (.eq (.a 3) (.a 0)) true, .ge (.a 4) 0, .is (.wrap .i64 (.sub (.a 4) (.a 3))) (.ofNat 70368744177664)]) (ht : TabOK Try.prog val sl0 (tabW 46 true true false)) : Q val := leaf h ht (by kernel_rfl) (by kernel_rfl) (by kernel_rfl)
theorem d46_0111 {val : Nat → Int} (h : Holds val [.le (.wrap .i64 (.add (.c (.ofNat 46)) (.a 5))) 64, .is (.a 1) (.ofNat 46), .ge (.a 5) 0, .le (.a 5) 63, .at (.eq (.a 3) (.a 4)) false, .at (.eq (.a 3) (.a 0)) true, .ge (.a 4) 0, .is (.wrap .i64 (.sub (.a 4) (.a 3))) (.ofNat 70368744177664)]) (ht : TabOK Try.prog val sl0 (tabW 46 true true true)) : Q val := leaf h ht (by kernel_rfl) (by kernel_rfl) (by kernel_rfl)
theorem d46_1000 {val : Nat → Int} (h : Holds val [.ge (.wrap .i64 (.add (.c (.ofNat 46)) (.a 5))) 65, .is (.a 1) (.ofNat 46), .ge (.a 5) 0, .le (.a 5) 63, .at (.eq (.a 3) (.a 4)) true, .at (.eq (.a 3) (.a 0)) false, .at (.eq (.a 4) (.a 0)) false, .ge (.a 4) 0]) (ht : TabOK Try.prog val sl0 (tabW 46 false false false)) : Q val := leaf h ht (by kernel_rfl) (by kernel_rfl) (by kernel_rfl)
theorem d46_1001 {val : Nat → Int} (h : Holds val [.le (.wrap .i64 (.add (.c (.ofNat 46)) (.a 5))) 64, .is (.a 1) (.ofNat 46), .ge (.a 5) 0, .le (.a 5) 63, .at (.eq (.a 3) (.a 4)) true, .at (.eq (.a 3) (.a 0)) false, .at (.eq (.a 4) (.a 0)) false, .ge (.a 4) 0]) (ht : TabOK Try.prog val sl0 (tabW 46 false false true)) : Q val := leaf h ht (by kernel_rfl) (by kernel_rfl) (by kernel_rfl)
theorem d46_1110 {val : Nat → Int} (h : Holds val [.ge (.wrap .i64 (.add (.c (.ofNat 46)) (.a 5))) 65, .is (.a 1) (.ofNat 46), .ge (.a 5) 0, .le (.a 5) 63, .at (.eq (.a 3) (.a 4)) true, .at (.eq (.a 3) (.a 0)) true, .ge (.a 4) 0]) (ht : TabOK Try.prog val sl0 (tabW 46 true true false)) : Q val := leaf h ht (by kernel_rfl) (by kernel_rfl) (by kernel_rfl)
theorem d46_1111 {val : Nat → Int} (h : Holds val [.le (.wrap .i64 (.add (.c (.ofNat 46)) (.a 5))) 64, .is (.a 1) (.ofNat 46), .ge (.a 5) 0, .le (.a 5) 63, .at (.eq (.a 3) (.a 4)) true, .at (.eq (.a 3) (.a 0)) true, .ge (.a 4) 0]) (ht : TabOK Try.prog val sl0 (tabW 46 true true true)) : Q val := leaf h ht (by kernel_rfl) (by kernel_rfl) (by kernel_rfl)

theorem d46 : D 46 := by
  intro val e fb wb w h ht h1 h2 h3
  cases e <;> cases fb <;> cases wb <;> cases w
  · exact d46_0000 h ht
  · exact d46_0001 h ht
  · exact d46_0010 h ht
  · exact d46_0011 h ht
  · simp at h1 h2 h3
  · simp at h1 h2 h3
  · exact d46_0110 h ht
  · exact d46_0111 h ht
  · exact d46_1000 h ht
  · exact d46_1001 h ht
  · simp at h1 h2 h3
  · simp at h1 h2 h3
  · simp at h1 h2 h3
  · simp at h1 h2 h3
  · exact d46_1110 h ht
  · exact d46_1111 h ht

theorem d47_0000 {val : Nat → Int} (h : Holds val [.ge (.wrap .i64 (.add (.c (.ofNat 47)) (.a 5))) 65, .is (.a 1) (.ofNat 47), .ge (.a 5) 0, .le (.a 5) 63, .at (.eq (.a 3) (.a 4)) false, .at (.eq (.a 3) (.a 0)) false, .at (.eq (.a 4) (.a 0)) false, .ge (.a 4) 0, .is (.wrap .i64 (.sub (.a 4) (.a 3))) (.ofNat 140737488355328)]) (ht : TabOK Try.prog val sl0 (tabW 47 false false false)) : Q val := leaf h ht (by kernel_rfl) (by kernel_rfl) (by kernel_rfl)
theorem d47_0001 {val : Nat → Int} (h : Holds val [.le (.wrap .i64 (.add (.c (.ofNat 47)) (.a 5))) 64, .is (.a 1) (.ofNat 47), .ge (.a 5) 0, .le (.a 5) 63, .at (.eq (.a 3) (.a 4)) false, .at (.eq (.a 3) (.a 0)) false, .at (.eq (.a 4) (.a 0)) false, .ge (.a 4) 0, .is (.wrap .i64 (.sub (.a 4) (.a 3))) (.ofNat 140737488355328)]) (ht : TabOK Try.prog val sl0 (tabW 47 false false true)) : Q val := leaf h ht (by kernel_rfl) (by kernel_rfl) (by kernel_rfl)
theorem d47_0010 {val : Nat → Int} (h : Holds val [.ge (.wrap .i64 (.add (.c (.ofNat 47)) (.a 5))) 65, .is (.a 1) (.ofNat 47), .ge (.a 5) 0, .le (.a 5) 63, .at (.eq (.a 3) (.a 4)) false, .at (.eq (.a 3) (.a 0)) false, .at (.eq (.a 4) (.a 0)) true, .ge (.a 4) 0, .is (.wrap .i64 (.sub (.a 4) (.a 3))) (.ofNat 140737488355328)]) (ht : TabOK Try.prog val sl0 (tabW 47 false true false)) : Q val := leaf h ht (by kernel_rfl) (by kernel_rfl) (by kernel_rfl)
theorem d47_0011 {val : Nat → Int} (h : Holds val [.le (.wrap .i64 (.add (.c (.ofNat 47)) (.a 5))) 64, .is (.a 1) (.ofNat 47), .ge (.a 5) 0, .le (.a 5) 63, .at (.eq (.a 3) (.a 4)) false, .at (.eq (.a 3) (.a 0)) false, .at (.eq (.a 4) (.a 0)) true, .ge (.a 4) 0, .is (.wrap .i64 (.sub (.a 4) (.a 3))) (.ofNat 140737488355328)]) (ht : TabOK Try.prog val sl0 (tabW 47 false true true)) : Q val := leaf h ht (by kernel_rfl) (by kernel_rfl) (by kernel_rfl)
theorem d47_0110 {val : Nat → Int} (h : Holds val [.ge (.wrap .i64 (.add (.c (.ofNat 47)) (.a 5))) 65, .is (.a 1) (.ofNat 47), .ge (.a 5) 0, .le (.a 5) 63, .at (.eq (.a 3) (.a 4)) false, .at (.eq (.a 3) (.a 0)) true, .ge (.a 4) 0, .is (.wrap .i64 (.sub (.a 4) (.a 3))) (.ofNat 140737488355328)]) (ht : TabOK Try.prog val sl0 (tabW 47 true true false)) : Q val := leaf h ht (by kernel_rfl) (by kernel_rfl) (by kernel_rfl)
theorem d47_0111 {val : Nat → Int} (h : Holds val [.le (.wrap .i64 (.add (.c (.ofNat 47)) (.a 5))) 64, .is (.a 1) (.ofNat 47), .ge (.a 5) 0, .le (.a 5) 63, .at (.eq (.a 3) (.a 4)) false, .at (.eq (.a 3) (.a 0)) true, .ge (.a 4) 0, .is (.wrap .i64 (.sub (.a 4) (.a 3))) (.ofNat 140737488355328)]) (ht : TabOK Try.prog val sl0 (tabW 47 true true true)) : Q val := leaf h ht (by kernel_rfl) (by kernel_rfl) (by kernel_rfl)
theorem d47_1000 {val : Nat → Int} (h : Holds val [.ge (.wrap .i64 (.add (.c (.ofNat 47)) (.a 5))) 65, .is (.a 1) (.ofNat 47), .ge (.a 5) 0, .le (.a 5) 63, .at (.eq (.a 3) (.a 4)) true, .at (.eq (.a 3) (.a 0)) false, .at (.eq (.a 4) (.a 0)) false, .ge (.a 4) 0]) (ht : TabOK Try.prog val sl0 (tabW 47 false false false)) : Q val := leaf h ht (by kernel_rfl) (by kernel_rfl) (by kernel_rfl)
theorem d47_1001 {val : Nat → Int} (h : Holds val [.le (.wrap .i64 (.add (.c (.ofNat 47)) (.a 5))) 64, .is (.a 1) (.ofNat 47), .ge (.a 5) 0, .le (.a 5) 63, .at (.eq (.a 3) (.a 4)) true, .at (.eq (.a 3) (.a 0)) false, .at (.eq (.a 4) (.a 0)) false, .ge (.a 4) 0]) (ht : TabOK Try.prog val sl0 (tabW 47 false false true)) : Q val := leaf h ht (by kernel_rfl) (by kernel_rfl) (by kernel_rfl)
theorem d47_1110 {val : Nat → Int} (h : Holds val [.ge (.wrap .i64 (.add (.c (.ofNat 47)) (.a 5))) 65, .is (.a 1) (.ofNat 47), .ge (.a 5) 0, .le (.a 5) 63, .at (.eq (.a 3) (.a 4)) true, .at (.eq (.a 3) (.a 0)) true, .ge (.a 4) 0]) (ht : TabOK Try.prog val sl0 (tabW 47 true true false)) : Q val := leaf h ht (by kernel_rfl) (by kernel_rfl) (by kernel_rfl)
theorem d47_1111 {val : Nat → Int} (h : Holds val [.le (.wrap .i64 (.add (.c (.ofNat 47)) (.a 5))) 64, .is (.a 1) (.ofNat 47), .ge (.a 5) 0, .le (.a 5) 63, .at (.eq (.a 3) (.a 4)) true, .at (.eq (.a 3) (.a 0)) true, .ge (.a 4) 0]) (ht : TabOK Try.prog val sl0 (tabW 47 true true true)) : Q val := leaf h ht (by kernel_rfl) (by kernel_rfl) (by kernel_rfl)

theorem d47 : D 47 := by
  intro val e fb wb w h ht h1 h2 h3
  cases e <;> cases fb <;> cases wb <;> cases w
  · exact d47_0000 h ht
  · exact d47_0001 h ht
  · exact d47_0010 h ht
  · exact d47_0011 h ht
  · simp at h1 h2 h3
  · simp at h1 h2 h3
  · exact d47_0110 h ht
  · exact d47_0111 h ht
  · exact d47_1000 h ht
  · exact d47_1001 h ht
  · simp at h1 h2 h3
  · simp at h1 h2 h3
  · simp at h1 h2 h3
  · simp at h1 h2 h3
  · exact d47_1110 h ht
  · exact d47_1111 h ht

theorem d48_0000 {val : Nat → Int} (h : Holds val [.ge (.wrap .i64 (.add (.c (.ofNat 48)) (.a 5))) 65, .is (.a 1) (.ofNat 48), .ge (.a 5) 0, .le (.a 5) 63, .at (.eq (.a 3) (.a 4)) false, .at (.eq (.a 3) (.a 0)) false, .at (.eq (.a 4) (.a 0)) false, .ge (.a 4) 0, .is (.wrap .i64 (.sub (.a 4) (.a 3))) (.ofNat 281474976710656)]) (ht : TabOK Try.prog val sl0 (tabW 48 false false false)) : Q val := leaf h ht (by kernel_rfl) (by kernel_rfl) (by kernel_rfl)
theorem d48_0001 {val : Nat → Int} (h : Holds val [.le (.wrap .i64 (.add (.c (.ofNat 48)) (.a 5))) 64, .is (.a 1) (.ofNat 48), .ge (.a 5) 0, .le (.a 5) 63, .at (.eq (.a 3) (.a 4)) false, .at (.eq (.a 3) (.a 0)) false, .at (.eq (.a 4) (.a 0)) false, .ge (.a 4) 0, .is (.wrap .i64 (.sub (.a 4) (.a 3))) (.ofNat 281474976710656)]) (ht : TabOK Try.prog val sl0 (tabW 48 false false true)) : Q val := leaf h ht (by kernel_rfl) (by kernel_rfl) (by kernel_rfl)
theorem d48_0010 {val : Nat → Int} (h : Holds val [.ge (.wrap .i64 (.add (.c (.ofNat 48)) (.a 5))) 65, .is (.a 1) (.ofNat 48), .ge (.a 5) 0, .le (.a 5) 63, .at (.eq (.a 3) (.a 4)) false, .at (.eq (.a 3) (.a 0)) false, .at (.eq (.a 4) (.a 0)) true, .ge (.a 4) 0, .is (.wrap .i64 (.sub (.a 4) (.a 3))) (.ofNat 281474976710656)]) (ht : TabOK Try.prog val sl0 (tabW 48 false true false)) : Q val := leaf h ht (by kernel_rfl) (by kernel_rfl) (by kernel_rfl)
theorem d48_0011 {val : Nat → Int} (h : Holds val [.le (.wrap .i64 (.add (.c (.ofNat 48)) (.a 5))) 64, .is (.a 1) (.ofNat 48), .ge (.a 5) 0, .le (.a 5) 63, .at (.eq (.a 3) (.a 4)) false, .at (.eq (.a 3) (.a 0)) false, .at (.eq (.a 4) (.a 0)) true, .ge (.a 4) 0, .is (.wrap .i64 (.sub (.a 4) (.a 3))) (.ofNat 281474976710656)]) (ht : TabOK Try.prog val sl0 (tabW 48 false true true)) : Q val := leaf h ht (by kernel_rfl) (by kernel_rfl) (by kernel_rfl)
theorem d48_0110 {val : Nat → Int} (h : Holds val [.ge (.wrap .i64 (.add (.c (.ofNat 48)) (.a 5))) 65, .is (.a 1) (.ofNat 48), .ge (.a 5) 0, .le (.a 5) 63, .at (.eq (.a 3) (.a 4)) false, .at (.eq (.a 3) (.a 0)) true, .ge (.a 4) 0, .is (.wrap .i64 (.sub (.a 4) (.a 3))) (.ofNat 281474976710656)]) (ht : TabOK Try.prog val sl0 (tabW 48 true true false)) : Q val := leaf h ht (by kernel_rfl) (by kernel_rfl) (by kernel_rfl)
theorem d48_0111 {val : Nat → Int} (h : Holds val [.le (.wrap .i64 (.add (.c (.ofNat 48)) (.a 5))) 64, .is (.a 1) (.ofNat 48), .ge (.a 5) 0, .le (.a 5) 63, .at (.eq (.a 3) (.a 4)) false, .at (.eq (.a 3) (.a 0)) true, .ge (.a 4) 0, .is (.wrap .i64 (.sub (.a 4) (.a 3))) (.ofNat 281474976710656)]) (ht : TabOK Try.prog val sl0 (tabW 48 true true true)) : Q val := leaf h ht (by kernel_rfl) (by kernel_rfl) (by kernel_rfl)
theorem d48_1000 {val : Nat → Int} (h : Holds val [.ge (.wrap .i64 (.add (.c (.ofNat 48)) (.a 5))) 65, .is (.a 1) (.ofNat 48), .ge (.a 5) 0, .le (.a 5) 63, .at (.eq (.a 3) (.a 4)) true, .at (.eq (.a 3) (.a 0)) false, .at (.eq (.a 4) (.a 0)) false, .ge (.a 4) 0]) (ht : TabOK Try.prog val sl0 (tabW 48 false false false)) : Q val := leaf h ht (by kernel_rfl) (by kernel_rfl) (by kernel_rfl)
theorem d48_1001 {val : Nat → Int} (h : Holds val [.le (.wrap .i64 (.add (.c (.ofNat 48)) (.a 5))) 64, .is (.a 1) (.ofNat 48), .ge (.a 5) 0, .le (.a 5) 63, .at (.eq (.a 3) (.a 4)) true, .at (.eq (.a 3) (.a 0)) false, .at (.eq (.a 4) (.a 0)) false, .ge (.a 4) 0]) (ht : TabOK Try.prog val sl0 (tabW 48 false false true)) : Q val := leaf h ht (by kernel_rfl) (by kernel_rfl) (by kernel_rfl)
theorem d48_1110 {val : Nat → Int} (h : Holds val [.ge (.wrap .i64 (.add (.c (.ofNat 48)) (.a 5))) 65, .is (.a 1) (.ofNat 48), .ge (.a 5) 0, .le (.a 5) 63, .at (.eq (.a 3) (.a 4)) true, .at (.eq (.a 3) (.a 0)) true, .ge (.a 4) 0]) (ht : TabOK Try.prog val sl0 (tabW 48 true true false)) : Q val := leaf h ht (by kernel_rfl) (by kernel_rfl) (by kernel_rfl)
theorem d48_1111 {val : Nat → Int} (h : Holds val [.le (.wrap .i64 (.add (.c (.ofNat 48)) (.a 5))) 64, .is (.a 1) (.ofNat 48), .ge (.a 5) 0, .le (.a 5) 63, .at (.eq (.a 3) (.a 4)) true, .at (.eq (.a 3) (.a 0)) true, .ge (.a 4) 0]) (ht : TabOK Try.prog val sl0 (tabW 48 true true true)) : Q val := leaf h ht (by kernel_rfl) (by kernel_rfl) (by kernel_rfl)

theorem d48 : D 48 := by
  intro val e fb wb w h ht h1 h2 h3
  cases e <;> cases fb <;> cases wb <;> cases w
  · exact d48_0000 h ht
  · exact d48_0001 h ht
  · exact d48_0010 h ht
  · exact d48_0011 h ht
  · simp at h1 h2 h3
  · simp at h1 h2 h3
  · exact d48_0110 h ht
  · exact d48_0111 h ht
  · exact d48_1000 h ht
  · exact d48_1001 h ht
  · simp at h1 h2 h3
  · simp at h1 h2 h3
  · simp at h1 h2 h3
  · simp at h1 h2 h3
  · exact d48_1110 h ht
  · exact d48_1111 h ht

end Go.Proofs.Ytclgmeoofmidfaa.FitsL
