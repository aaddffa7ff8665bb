/-
  The law 'FieldFits', by widths: each way, run.
-/
import Derived.Test.YtclgmeoofmidfaaFitsH
namespace Go.Proofs.Ytclgmeoofmidfaa.FitsL
open Go.Sim Go.Proofs.Ytclgmeoofmidfaa.Fld
set_option maxRecDepth 100000

theorem d17_0000 {val : Nat → Int} (h : Holds val [.ge (.wrap .i64 (.add (.c (.ofNat 17)) (.a 5))) 65, .is (.a 1) (.ofNat 17), .ge (.a 5) 0, .le (.a 5) 63, .at (.eq (.a 3) (.a 4)) false, .at (.eq (.a 3) (.a 0)) false, .at (.eq (.a 4) (.a 0)) false, .ge (.a 4) 0, .is (.wrap .i64 (.sub (.a 4) (.a 3))) (.ofNat 131072)]) (ht : TabOK Try.prog val sl0 (tabW 17 false false false)) : Q val := leaf h ht (by kernel_rfl) (by kernel_rfl) (by kernel_rfl)
theorem d17_0001 {val : Nat → Int} (h : Holds val [.le (.wrap .i64 (.add (.c (.ofNat 17)) (.a 5))) 64, .is (.a 1) (.ofNat 17), .ge (.a 5) 0, .le (.a 5) 63, .at (.eq (.a 3) (.a 4)) false, .at (.eq (.a 3) (.a 0)) false, .at (.eq (.a 4) (.a 0)) false, .ge (.a 4) 0, .is (.wrap .i64 (.sub (.a 4) (.a 3))) (.ofNat 131072)]) (ht : TabOK Try.prog val sl0 (tabW 17 false false true)) : Q val := leaf h ht (by kernel_rfl) (by kernel_rfl) (by kernel_rfl)
theorem d17_0010 {val : Nat → Int} (h : Holds val [.ge (.wrap .i64 (.add (.c (.ofNat 17)) (.a 5))) 65, .is (.a 1) (.ofNat 17), .ge (.a 5) 0, .le (.a 5) 63, .at (.eq (.a 3) (.a 4)) false, .at (.eq (.a 3) (.a 0)) false, .at (.eq (.a 4) (.a 0)) true, .ge (.a 4) 0, .is (.wrap .i64 (.sub (.a 4) (.a 3))) (.ofNat 131072)]) (ht : TabOK Try.prog val sl0 (tabW 17 false true false)) : Q val := leaf h ht (by kernel_rfl) (by kernel_rfl) (by kernel_rfl)
theorem d17_0011 {val : Nat → Int} (h : Holds val [.le (.wrap .i64 (.add (.c (.ofNat 17)) (.a 5))) 64, .is (.a 1) (.ofNat 17), .ge (.a 5) 0, .le (.a 5) 63, .at (.eq (.a 3) (.a 4)) false, .at (.eq (.a 3) (.a 0)) false, .at (.eq (.a 4) (.a 0)) true, .ge (.a 4) 0, .is (.wrap .i64 (.sub (.a 4) (.a 3))) (.ofNat 131072)]) (ht : TabOK Try.prog val sl0 (tabW 17 false true true)) : Q val := leaf h ht (by kernel_rfl) (by kernel_rfl) (by kernel_rfl)
theorem d17_0110 {val : Nat → Int} (h : Holds val [.ge (.wrap .i64 (.add (.c (.ofNat 17)) (.a 5))) 65, .is (.a 1) (.ofNat 17), .ge (.a 5) 0, .le (.a 5) 63, .at (.eq (.a 3) (.a 4)) false, .at (.eq (.a 3) (.a 0)) true, .ge (.a 4) 0, .is (.wrap .i64 (.sub (.a 4) (.a 3))) (.ofNat 131072)]) (ht : TabOK Try.prog val sl0 (tabW 17 true true false)) : Q val := leaf h ht (by kernel_rfl) (by kernel_rfl) (by kernel_rfl)
theorem d17_0111 {val : Nat → Int} (h : Holds val [.le (.wrap .i64 (.add (.c (.ofNat 17)) (.a 5))) 64, .is (.a 1) (.ofNat 17), .ge (.a 5) 0, .le (.a 5) 63, .at (.eq (.a 3) (.a 4)) false, .at (.eq (.a 3) (.a 0)) true, .ge (.a 4) 0, .is (.wrap .i64 (.sub (.a 4) (.a 3))) (.ofNat 131072)]) (ht : TabOK Try.prog val sl0 (tabW 17 true true true)) : Q val := leaf h ht (by kernel_rfl) (by kernel_rfl) (by kernel_rfl)
theorem d17_1000 {val : Nat → Int} (h : Holds val [.ge (.wrap .i64 (.add (.c (.ofNat 17)) (.a 5))) 65, .is (.a 1) (.ofNat 17), .ge (.a 5) 0, .le (.a 5) 63, .at (.eq (.a 3) (.a 4)) true, .at (.eq (.a 3) (.a 0)) false, .at (.eq (.a 4) (.a 0)) false, .ge (.a 4) 0]) (ht : TabOK Try.prog val sl0 (tabW 17 false false false)) : Q val := leaf h ht (by kernel_rfl) (by kernel_rfl) (by kernel_rfl)
theorem d17_1001 {val : Nat → Int} (h : Holds val [.le (.wrap .i64 (.add (.c (.ofNat 17)) (.a 5))) 64, .is (.a 1) (.ofNat 17), .ge (.a 5) 0, .le (.a 5) 63, .at (.eq (.a 3) (.a 4)) true, .at (.eq (.a 3) (.a 0)) false, .at (.eq (.a 4) (.a 0)) false, .ge (.a 4) 0]) (ht : TabOK Try.prog val sl0 (tabW 17 false false true)) : Q val := leaf h ht (by kernel_rfl) (by kernel_rfl) (by kernel_rfl)
theorem d17_1110 {val : Nat → Int} (h : Holds val [.ge (.wrap .i64 (.add (.c (.ofNat 17)) (.a 5))) 65, .is (.a 1) (.ofNat 17), .ge (.a 5) 0, .le (.a 5) 63, .at (.eq (.a 3) (.a 4)) true, .at (.eq (.a 3) (.a 0)) true, .ge (.a 4) 0]) (ht : TabOK Try.prog val sl0 (tabW 17 true true false)) : Q val := leaf h ht (by kernel_rfl) (by kernel_rfl) (by kernel_rfl)
theorem d17_1111 {val : Nat → Int} (h : Holds val [.le (.wrap .i64 (.add (.c (.ofNat 17)) (.a 5))) 64, .is (.a 1) (.ofNat 17), .ge (.a 5) 0, .le (.a 5) 63, .at (.eq (.a 3) (.a 4)) true, .at (.eq (.a 3) (.a 0)) true, .ge (.a 4) 0]) (ht : TabOK Try.prog val sl0 (tabW 17 true true true)) : Q val := leaf h ht (by kernel_rfl) (by kernel_rfl) (by kernel_rfl)

theorem d17 : D 17 := by
  intro val e fb wb w h ht h1 h2 h3
  cases e <;> cases fb <;> cases wb <;> cases w
  · exact d17_0000 h ht
  · exact d17_0001 h ht
  · exact d17_0010 h ht
  · exact d17_0011 h ht
  · simp at h1 h2 h3
  · simp at h1 h2 h3
  · exact d17_0110 h ht
  · exact d17_0111 h ht
  · exact d17_1000 h ht
  · exact d17_1001 h ht
  · simp at h1 h2 h3
  · simp at h1 h2 h3
  · simp at h1 h2 h3
  · simp at h1 h2 h3
  · exact d17_1110 h ht
  · exact d17_1111 h ht

theorem d18_0000 {val : Nat → Int} (h : Holds val [.ge (.wrap .i64 (.add (.c (.ofNat 18)) (.a 5))) 65, .is (.a 1) (.ofNat 18), .ge (.a 5) 0, .le (.a 5) 63, .at (.eq (.a 3) (.a 4)) false, .at (.eq (.a 3) (.a 0)) false, .at (.eq (.a 4) (.a 0)) false, .ge (.a 4) 0, .is (.wrap .i64 (.sub (.a 4) (.a 3))) (.ofNat 262144)]) (ht : TabOK Try.prog val sl0 (tabW 18 false false false)) : Q val := leaf h ht (by kernel_rfl) (by kernel_rfl) (by kernel_rfl)
theorem d18_0001 {val : Nat → Int} (h : Holds val [.le (.wrap .i64 (.add (.c (.ofNat 18)) (.a 5))) 64, .is (.a 1) (.ofNat 18), .ge (.a 5) 0, .le (.a 5) 63, .at (.eq (.a 3) (.a 4)) false, .at (.eq (.a 3) (.a 0)) false, .at (.eq (.a 4) (.a 0)) false, .ge (.a 4) 0, .is (.wrap .i64 (.sub (.a 4) (.a 3))) (.ofNat 262144)]) (ht : TabOK Try.prog val sl0 (tabW 18 false false true)) : Q val := leaf h ht (by kernel_rfl) (by kernel_rfl) (by kernel_rfl)
theorem d18_0010 {val : Nat → Int} (h : Holds val [.ge (.wrap .i64 (.add (.c (.ofNat 18)) (.a 5))) 65, .is (.a 1) (.ofNat 18), .ge (.a 5) 0, .le (.a 5) 63, .at (.eq (.a 3) (.a 4)) false, .at (.eq (.a 3) (.a 0)) false, .at (.eq (.a 4) (.a 0)) true, .ge (.a 4) 0, .is (.wrap .i64 (.sub (.a 4) (.a 3))) (.ofNat 262144)]) (ht : TabOK Try.prog val sl0 (tabW 18 false true false)) : Q val := leaf h ht (by kernel_rfl) (by kernel_rfl) (by kernel_rfl)
theorem d18_0011 {val : Nat → Int} (h : Holds val [.le (.wrap .i64 (.add (.c (.ofNat 18)) (.a 5))) 64, .is (.a 1) (.ofNat 18), .ge (.a 5) 0, .le (.a 5) 63, .at (.eq (.a 3) (.a 4)) false, .at (.eq (.a 3) (.a 0)) false, .at (.eq (.a 4) (.a 0)) true, .ge (.a 4) 0, .is (.wrap .i64 (.sub (.a 4) (.a 3))) (.ofNat 262144)]) (ht : TabOK Try.prog val sl0 (tabW 18 false true true)) : Q val := leaf h ht (by kernel_rfl) (by kernel_rfl) (by kernel_rfl)
theorem d18_0110 {val : Nat → Int} (h : Holds val [.ge (.wrap .i64 (.add (.c (.ofNat 18)) (.a 5))) 65, .is (.a 1) (.ofNat 18), .ge (.a 5) 0, .le (.a 5) 63, .at (.eq (.a 3) (.a 4)) false, .at (.eq (.a 3) (.a 0)) true, .ge (.a 4) 0, .is (.wrap .i64 (.sub (.a 4) (.a 3))) (.ofNat 262144)]) (ht : TabOK Try.prog val sl0 (tabW 18 true true false)) : Q val := leaf h ht (by kernel_rfl) (by kernel_rfl) (by kernel_rfl)
theorem d18_0111 {val : Nat → Int} (h : Holds val [.le (.wrap .i64 (.add (.c (.ofNat 18)) (.a 5))) 64, .is (.a 1) (.ofNat 18), .ge (.a 5) 0, .le (.a 5) 63, .at (.eq (.a 3) (.a 4)) false, .at (.eq (.a 3) (.a 0)) true, .ge (.a 4) 0, .is (.wrap .i64 (.sub (.a 4) (.a 3))) (.ofNat 262144)]) (ht : TabOK Try.prog val sl0 (tabW 18 true true true)) : Q val := leaf h ht (by kernel_rfl) (by kernel_rfl) (by kernel_rfl)
theorem d18_1000 {val : Nat → Int} (h : Holds val [.ge (.wrap .i64 (.add (.c (.ofNat 18)) (.a 5))) 65, .is (.a 1) (.ofNat 18), .ge (.a 5) 0, .le (.a 5) 63, .at (.eq (.a 3) (.a 4)) true, .at (.eq (.a 3) (.a 0)) false, .at (.eq (.a 4) (.a 0)) false, .ge (.a 4) 0]) (ht : TabOK Try.prog val sl0 (tabW 18 false false false)) : Q val := leaf h ht (by kernel_rfl) (by kernel_rfl) (by kernel_rfl)
theorem d18_1001 {val : Nat → Int} (h : Holds val [.le (.wrap .i64 (.add (.c (.ofNat 18)) (.a 5))) 64, .is (.a 1) (.ofNat 18), .ge (.a 5) 0, .le (.a 5) 63, .at (.eq (.a 3) (.a 4)) true, .at (.eq (.a 3) (.a 0)) false, .at (.eq (.a 4) (.a 0)) false, .ge (.a 4) 0]) (ht : TabOK Try.prog val sl0 (tabW 18 false false true)) : Q val := leaf h ht (by kernel_rfl) (by kernel_rfl) (by kernel_rfl)
theorem d18_1110 {val : Nat → Int} (h : Holds val [.ge (.wrap .i64 (.add (.c (.ofNat 18)) (.a 5))) 65, .is (.a 1) (.ofNat 18), .ge (.a 5) 0, .le (.a 5) 63, .at (.eq (.a 3) (.a 4)) true, .at (.eq (.a 3) (.a 0)) true, .ge (.a 4) 0]) (ht : TabOK Try.prog val sl0 (tabW 18 true true false)) : Q val := leaf h ht (by kernel_rfl) (by kernel_rfl) (by kernel_rfl)
theorem d18_1111 {val : Nat → Int} (h : Holds val [.le (.wrap .i64 (.add (.c (.ofNat 18)) (.a 5))) 64, .is (.a 1) (.ofNat 18), .ge (.a 5) 0, .le (.a 5) 63, .at (.eq (.a 3) (.a 4)) true, .at (.eq (.a 3) (.a 0)) true, .ge (.a 4) 0]) (ht : TabOK Try.prog val sl0 (tabW 18 true true true)) : Q val := leaf h ht (by kernel_rfl) (by kernel_rfl) (by kernel_rfl)

theorem d18 : D 18 := by
  intro val e fb wb w h ht h1 h2 h3
  cases e <;> cases fb <;> cases wb <;> cases w
  · exact d18_0000 h ht
  · exact d18_0001 h ht
  · exact d18_0010 h ht
  · exact d18_0011 h ht
  · simp at h1 h2 h3
  · simp at h1 h2 h3
  · exact d18_0110 h ht
  · exact d18_0111 h ht
  · exact d18_1000 h ht
  · exact d18_1001 h ht
  · simp at h1 h2 h3
  · simp at h1 h2 h3
  · simp at h1 h2 h3
  · simp at h1 h2 h3
  · exact d18_1110 h ht
  · exact d18_1111 h ht

theorem d19_0000 {val : Nat → Int} (h : Holds val [.ge (.wrap .i64 (.add (.c (.ofNat 19)) (.a 5))) 65, .is (.a 1) (.ofNat 19), .ge (.a 5) 0, .le (.a 5) 63, .at (.eq (.a 3) (.a 4)) false, .at (.eq (.a 3) (.a 0)) false, .at (.eq (.a 4) (.a 0)) false, .ge (.a 4) 0, .is (.wrap .i64 (.sub (.a 4) (.a 3))) (.ofNat 524288)]) (ht : TabOK Try.prog val sl0 (tabW 19 false false false)) : Q val := leaf h ht (by kernel_rfl) (by kernel_rfl) (by kernel_rfl)
theorem d19_0001 {val : Nat → Int} (h : Holds val [.le (.wrap .i64 (.add (.c (.ofNat 19)) (.a 5))) 64, .is (.a 1) (.ofNat 19), .ge (.a 5) 0, .le (.a 5) 63, .at (.eq (.a 3) (.a 4)) false, .at (.eq (.a 3) (.a 0)) false, .at (.eq (.a 4) (.a 0)) false, .ge (.a 4) 0, .is (.wrap .i64 (.sub (.a 4) (.a 3))) (.ofNat 524288)]) (ht : TabOK Try.prog val sl0 (tabW 19 false false true)) : Q val := leaf h ht (by kernel_rfl) (by kernel_rfl) (by kernel_rfl)
theorem d19_0010 {val : Nat → Int} (h : Holds val [.ge (.wrap .i64 (.add (.c (.ofNat 19)) (.a 5))) 65, .is (.a 1) (.ofNat 19), .ge (.a 5) 0, .le (.a 5) 63, .at (.eq (.a 3) (.a 4)) false, .at (.eq (.a 3) (.a 0)) false, .at (.eq (.a 4) (.a 0)) true, .ge (.a 4) 0, .is (.wrap .i64 (.sub (.a 4) (.a 3))) (.ofNat 524288)]) (ht : TabOK Try.prog val sl0 (tabW 19 false true false)) : Q val := leaf h ht (by kernel_rfl) (by kernel_rfl) (by kernel_rfl)
theorem d19_0011 {val : Nat → Int} (h : Holds val [.le (.wrap .i64 (.add (.c (.ofNat 19)) (.a 5))) 64, .is (.a 1) (.ofNat 19), .ge (.a 5) 0, .le (.a 5) 63, .at (.eq (.a 3) (.a 4)) false, .at (.eq (.a 3) (.a 0)) false, .at (.eq (.a 4) (.a 0)) true, .ge (.a 4) 0, .is (.wrap .i64 (.sub (.a 4) (.a 3))) (.ofNat 524288)]) (ht : TabOK Try.prog val sl0 (tabW 19 false true true)) : Q val := leaf h ht (by kernel_rfl) (by kernel_rfl) (by kernel_rfl)
theorem d19_0110 {val : Nat → Int} (h : Holds val [.ge (.wrap .i64 (.add (.c (.ofNat 19)) (.a 5))) 65, .is (.a 1) (.ofNat 19), .ge (.a 5) 0, .le (.a 5) 63, .at (.eq (.a 3) (.a 4)) false, .at (.eq (.a 3) (.a 0)) true, .ge (.a 4) 0, .is (.wrap .i64 (.sub (.a 4) (.a 3))) (.ofNat 524288)]) (ht : TabOK Try.prog val sl0 (tabW 19 true true false)) : Q val := leaf h ht (by kernel_rfl) (by kernel_rfl) (by kernel_rfl)
theorem d19_0111 {val : Nat → Int} (h : Holds val [.le (.wrap .i64 (.add (.c (.ofNat 19)) (.a 5))) 64, .is (.a 1) (.ofNat 19), .ge (.a 5) 0, .le (.a 5) 63, .at (.eq (.a 3) (.a 4)) false, .at (.eq (.a 3) (.a 0)) true, .ge (.a 4) 0, .is (.wrap .i64 (.sub (.a 4) (.a 3))) (.ofNat 524288)]) (ht : TabOK Try.prog val sl0 (tabW 19 true true true)) : Q val := leaf h ht (by kernel_rfl) (by kernel_rfl) (by kernel_rfl)
theorem d19_1000 {val : Nat → Int} (h : Holds val [.ge (.wrap .i64 (.add (.c (.ofNat 19)) (.a 5))) 65, .is (.a 1) (.ofNat 19), .ge (.a 5) 0, .le (.a 5) 63, .at (.eq (.a 3) (.a 4)) true, .at (.eq (.a 3) (.a 0)) false, .at (.eq (.a 4) (.a 0)) false, .ge (.a 4) 0]) (ht : TabOK Try.prog val sl0 (tabW 19 false false false)) : Q val := leaf h ht (by kernel_rfl) (by kernel_rfl) (by kernel_rfl)
theorem d19_1001 {val : Nat → Int} (h : Holds val [.le (.wrap .i64 (.add (.c (.ofNat 19)) (.a 5))) 64, .is (.a 1) (.ofNat 19), .ge (.a 5) 0, .le (.a 5) 63, .at (.eq (.a 3) (.a 4)) true, .at (.eq (.a 3) (.a 0)) false, .at (.eq (.a 4) (.a 0)) false, .ge (.a 4) 0]) (ht : TabOK Try.prog val sl0 (tabW 19 false false true)) : Q val := leaf h ht (by kernel_rfl) (by kernel_rfl) (by kernel_rfl)
theorem d19_1110 {val : Nat → Int} (h : Holds val [.ge (.wrap .i64 (.add (.c (.ofNat 19)) (.a 5))) 65, .is (.a 1) (.ofNat 19), .ge (.a 5) 0, .le (.a 5) 63, .at (.eq (.a 3) (.a 4)) true, .at (.eq (.a 3) (.a 0)) true, .ge (.a 4) 0]) (ht : TabOK Try.prog val sl0 (tabW 19 true true false)) : Q val := leaf h ht (by kernel_rfl) (by kernel_rfl) (by kernel_rfl)
theorem d19_1111 {val : Nat → Int} (h : Holds val [.le (.wrap .i64 (.add (.c (.ofNat 19)) (.a 5))) 64, .is (.a 1) (.ofNat 19), .ge (.a 5) 0, .le (.a 5) 63, .at (.eq (.a 3) (.a 4)) true, .at (.eq (.a 3) (.a 0)) true, .ge (.a 4) 0]) (ht : TabOK Try.prog val sl0 (tabW 19 true true true)) : Q val := leaf h ht (by kernel_rfl) (by kernel_rfl) (by kernel_rfl)

theorem d19 : D 19 := by
  intro val e fb wb w h ht h1 h2 h3
  cases e <;> cases fb <;> cases wb <;> cases w
  · exact d19_0000 h ht
  · exact d19_0001 h ht
  · exact d19_0010 h ht
  · exact d19_0011 h ht
  · simp at h1 h2 h3
  · simp at h1 h2 h3
  · exact d19_0110 h ht
  · exact d19_0111 h ht
  · exact d19_1000 h ht
  · exact d19_1001 h ht
  · simp at h1 h2 h3
  · simp at h1 h2 h3
  · simp at h1 h2 h3
  · simp at h1 h2 h3
  · exact d19_1110 h ht
  · exact d19_1111 h ht

theorem d20_0000 {val : Nat → Int} (h : Holds val [.ge (.wrap .i64 (.add (.c (.ofNat 20)) (.a 5))) 65, .is (.a 1) (.ofNat 20), .ge (.a 5) 0, .le (.a 5) 63, .at (.eq (.a 3) (.a 4)) false, .at (.eq (.a 3) (.a 0)) false, .at (.eq (.a 4) (.a 0)) false, .ge (.a 4) 0, .is (.wrap .i64 (.sub (.a 4) (.a 3))) (.ofNat 1048576)]) (ht : TabOK Try.prog val sl0 (tabW 20 false false false)) : Q val := leaf h ht (by kernel_rfl) (by kernel_rfl) (by kernel_rfl)
theorem d20_0001 {val : Nat → Int} (h : Holds val [.le (.wrap .i64 (.add (.c (.ofNat 20)) (.a 5))) 64, .is (.a 1) (.ofNat 20), .ge (.a 5) 0, .le (.a 5) 63, .at (.eq (.a 3) (.a 4)) false, .at (.eq (.a 3) (.a 0)) false, .at (.eq (.a 4) (.a 0)) false, .ge (.a 4) 0, .is (.wrap .i64 (.sub (.a 4) (.a 3))) (.ofNat 1048576)]) (ht : TabOK Try.prog val sl0 (tabW 20 false false true)) : Q val := leaf h ht (by kernel_rfl) (by kernel_rfl) (by kernel_rfl)
theorem d20_0010 {val : Nat → Int} (h : Holds val [.ge (.wrap .i64 (.add (.c (.ofNat 20)) (.a 5))) 65, .is (.a 1) (.ofNat 20), .ge (.a 5) 0, .le (.a 5) 63, .at (.eq (.a 3) (.a 4)) false, .at (.eq (.a 3) (.a 0)) false, .at (.eq (.a 4) (.a 0)) true, .ge (.a 4) 0, .is (.wrap .i64 (.sub (.a 4) (.a 3))) (.ofNat 1048576)]) (ht : TabOK Try.prog val sl0 (tabW 20 false true false)) : Q val := leaf h ht (by kernel_rfl) (by kernel_rfl) (by kernel_rfl)
theorem d20_0011 {val : Nat → Int} (h : Holds val [.le (.wrap .i64 (.add (.c (.ofNat 20)) (.a 5))) 64, .is (.a 1) (.ofNat 20), .ge (.a 5) 0, .le (.a 5) 63, .at (.eq (.a 3) (.a 4)) false, .at (.eq (.a 3) (.a 0)) false, .at (.eq (.a 4) (.a 0)) true, .ge (.a 4) 0, .is (.wrap .i64 (.sub (.a 4) (.a 3))) (.ofNat 1048576)]) (ht : TabOK Try.prog val sl0 (tabW 20 false true true)) : Q val := leaf h ht (by kernel_rfl) (by kernel_rfl) (by kernel_rfl)
theorem d20_0110 {val : Nat → Int} (h : Holds val [.ge (.wrap .i64 (.add (.c (.ofNat 20)) (.a 5))) 65, .is (.a 1) (.ofNat 20), .ge (.a 5) 0, .le (.a 5) 63, .at (.eq (.a 3) (.a 4)) false, .at (.eq (.a 3) (.a 0)) true, .ge (.a 4) 0, .is (.wrap .i64 (.sub (.a 4) (.a 3))) (.ofNat 1048576)]) (ht : TabOK Try.prog val sl0 (tabW 20 true true false)) : Q val := leaf h ht (by kernel_rfl) (by kernel_rfl) (by kernel_rfl)
theorem d20_0111 {val : Nat → Int} (h : Holds val [.le (.wrap .i64 (.add (.c (.ofNat 20)) (.a 5))) 64, .is (.a 1) (.ofNat 20), .ge (.a 5) 0, .le (.a 5) 63, .at (.eq (.a 3) (.a 4)) false, .at (.eq (.a 3) (.a 0)) true, .ge (.a 4) 0, .is (.wrap .i64 (.sub (.a 4) (.a 3))) (.ofNat 1048576)]) (ht : TabOK Try.prog val sl0 (tabW 20 true true true)) : Q val := leaf h ht (by kernel_rfl) (by kernel_rfl) (by kernel_rfl)
theorem d20_1000 {val : Nat → Int} (h : Holds val [.ge (.wrap .i64 (.add (.c (.ofNat 20)) (.a 5))) 65, .is (.a 1) (.ofNat 20), .ge (.a 5) 0, .le (.a 5) 63, .at (.eq (.a 3) (.a 4)) true, .at (.eq (.a 3) (.a 0)) false, .at (.eq (.a 4) (.a 0)) false, .ge (.a 4) 0]) (ht : TabOK Try.prog val sl0 (tabW 20 false false false)) : Q val := leaf h ht (by kernel_rfl) (by kernel_rfl) (by kernel_rfl)
theorem d20_1001 {val : Nat → Int} (h : Holds val [.le (.wrap .i64 (.add (.c (.ofNat 20)) (.a 5))) 64, .is (.a 1) (.ofNat 20), .ge (.a 5) 0, .le (.a 5) 63, .at (.eq (.a 3) (.a 4)) true, .at (.eq (.a 3) (.a 0)) false, .at (.eq (.a 4) (.a 0)) false, .ge (.a 4) 0]) (ht : TabOK Try.prog val sl0 (tabW 20 false false true)) : Q val := leaf h ht (by kernel_rfl) (by kernel_rfl) (by kernel_rfl)
theorem d20_1110 {val : Nat → Int} (h : Holds val [.ge (.wrap .i64 (.add (.c (.ofNat 20)) (.a 5))) 65, .is (.a 1) (.ofNat 20), .ge (.a 5) 0, .le (.a 5) 63, .at (.eq (.a 3) (.a 4)) true, .at (.eq (.a 3) (.a 0)) true, .ge (.a 4) 0]) (ht : TabOK Try.prog val sl0 (tabW 20 true true false)) : Q val := leaf h ht (by kernel_rfl) (by kernel_rfl) (by kernel_rfl)
theorem d20_1111 {val : Nat → Int} (h : Holds val [.le (.wrap .i64 (.add (.c (.ofNat 20)) (.a 5))) 64, .is (.a 1) (.ofNat 20), .ge (.a 5) 0, .le (.a 5) 63, .at (.eq (.a 3) (.a 4)) true, .at (.eq (.a 3) (.a 0)) true, .ge (.a 4) 0]) (ht : TabOK Try.prog val sl0 (tabW 20 true true true)) : Q val := leaf h ht (by kernel_rfl) (by kernel_rfl) (by kernel_rfl)

theorem d20 : D 20 := by
  intro val e fb wb w h ht h1 h2 h3
  cases e <;> cases fb <;> cases wb <;> cases w
  · exact d20_0000 h ht
  · exact d20_0001 h ht
  · exact d20_0010 h ht
  · exact d20_0011 h ht
  · simp at h1 h2 h3
  · simp at h1 h2 h3
  · exact d20_0110 h ht
  · exact d20_0111 h ht
  · exact d20_1000 h ht
  · exact d20_1001 h ht
  · simp at h1 h2 h3
  · simp at h1 h2 h3
  · simp at h1 h2 h3
  · simp at h1 h2 h3
  · exact d20_1110 h ht
  · exact d20_1111 h ht

theorem d21_0000 {val : Nat → Int} (h : Holds val [.ge (.wrap .i64 (.add (.c (.ofNat 21)) (.a 5))) 65, .is (.a 1) (.ofNat 21), .ge (.a 5) 0, .le (.a 5) 63, .at (.eq (.a 3) (.a 4)) false, .at (.eq (.a 3) (.a 0)) false, .at (.eq (.a 4) (.a 0)) false, .ge (.a 4) 0, .is (.wrap .i64 (.sub (.a 4) (.a 3))) (.ofNat 2097152)]) (ht : TabOK Try.prog val sl0 (tabW 21 false false false)) : Q val := leaf h ht (by kernel_rfl) (by kernel_rfl) (by kernel_rfl)
theorem d21_0001 {val : Nat → Int} (h : Holds val [.le (.wrap .i64 (.add (.c (.ofNat 21)) (.a 5))) 64, .is (.a 1) (.ofNat 21), .ge (.a 5) 0, .le (.a 5) 63, .at (.eq (.a 3) (.a 4)) false, .at (.eq (.a 3) (.a 0)) false, .at (.eq (.a 4) (.a 0)) false, .ge (.a 4) 0, .is (.wrap .i64 (.sub (.a 4) (.a 3))) (.ofNat 2097152)]) (ht : TabOK Try.prog val sl0 (tabW 21 false false true)) : Q val := leaf h ht (by kernel_rfl) (by kernel_rfl) (by kernel_rfl)
theorem d21_0010 {val : Nat → Int} (h : Holds val [.ge (.wrap .i64 (.add (.c (.ofNat 21)) (.a 5))) 65, .is (.a 1) (.ofNat 21), .ge (.a 5) 0, .le (.a 5) 63, .at (.eq (.a 3) (.a 4)) false, .at (.eq (.a 3) (.a 0)) false, .at (.eq (.a 4) (.a 0)) true, .ge (.a 4) 0, .is (.wrap .i64 (.sub (.a 4) (.a 3))) (.ofNat 2097152)]) (ht : TabOK Try.prog val sl0 (tabW 21 false true false)) : Q val := leaf h ht (by kernel_rfl) (by kernel_rfl) (by kernel_rfl)
theorem d21_0011 {val : Nat → Int} (h : Holds val [.le (.wrap .i64 (.add (.c (.ofNat 21)) (.a 5))) 64, .is (.a 1) (.ofNat 21), .ge (.a 5) 0, .le (.a 5) 63, .at (.eq (.a 3) (.a 4)) false, .at (.eq (.a 3) (.a 0)) false, .at (.eq (.a 4) (.a 0)) true, .ge (.a 4) 0, .is (.wrap .i64 (.sub (.a 4) (.a 3))) (.ofNat 2097152)]) (ht : TabOK Try.prog val sl0 (tabW 21 false true true)) : Q val := leaf h ht (by kernel_rfl) (by kernel_rfl) (by kernel_rfl)
theorem d21_0110 {val : Nat → Int} (h : Holds val [.ge (.wrap .i64 (.add (.c (.ofNat 21)) (.a 5))) 65, .is (.a 1) (.ofNat 21), .ge (.a 5) 0, .le (.a 5) 63, .at (.eq (.a 3) (.a 4)) false, .at (.eq (.a 3) (.a 0)) true, .ge (.a 4) 0, .is (.wrap .i64 (.sub (.a 4) (.a 3))) (.ofNat 2097152)]) (ht : TabOK Try.prog val sl0 (tabW 21 true true false)) : Q val := leaf h ht (by kernel_rfl) (by kernel_rfl) (by kernel_rfl)
theorem d21_0111 {val : Nat → Int} (h : Holds val [.le (.wrap .i64 (.add (.c (.ofNat 21)) (.a 5))) 64, .is (.a 1) (.ofNat 21), .ge (.a 5) 0, .le (.a 5) 63, .at (.eq (.a 3) (.a 4)) false, .at (.eq (.a 3) (.a 0)) true, .ge (.a 4) 0, .is (.wrap .i64 (.sub (.a 4) (.a 3))) (.ofNat 2097152)]) (ht : TabOK Try.prog val sl0 (tabW 21 true true true)) : Q val := leaf h ht (by kernel_rfl) (by kernel_rfl) (by kernel_rfl)
theorem d21_1000 {val : Nat → Int} (h : Holds val [.ge (.wrap .i64 (.add (.c (.ofNat 21)) (.a 5))) 65, .is (.a 1) (.ofNat 21), .ge (.a 5) 0, .le (.a 5) 63, .at (.eq (.a 3) (.a 4)) true, .at (.eq (.a 3) (.a 0)) false, .at (.eq (.a 4) (.a 0)) false, .ge (.a 4) 0]) (ht : TabOK Try.prog val sl0 (tabW 21 false false false)) : Q val := leaf h ht (by kernel_rfl) (by kernel_rfl) (by kernel_rfl)
theorem d21_1001 {val : Nat → Int} (h : Holds val [.le (.wrap .i64 (.add (.c (.ofNat 21)) (.a 5))) 64, .is (.a 1) (.ofNat 21), .ge (.a 5) 0, .le (.a 5) 63, .at (.eq (.a 3) (.a 4)) true, .at (.eq (.a 3) (.a 0)) false, .at (.eq (.a 4) (.a 0)) false, .ge (.a 4) 0]) (ht : TabOK Try.prog val sl0 (tabW 21 false false true)) : Q val := leaf h ht (by kernel_rfl) (by kernel_rfl) (by kernel_rfl)
theorem d21_1110 {val : Nat → Int} (h : Holds val [.ge (.wrap .i64 (.add (.c (.ofNat 21)) (.a 5))) 65, .is (.a 1) (.ofNat 21), .ge (.a 5) 0, .le (.a 5) 63, .at (.eq (.a 3) (.a 4)) true, .at (.eq (.a 3) (.a 0)) true, .ge (.a 4) 0]) (ht : TabOK Try.prog val sl0 (tabW 21 true true false)) : Q val := leaf h ht (by kernel_rfl) (by kernel_rfl) (by kernel_rfl)
theorem d21_1111 {val : Nat → Int} (h : Holds val [.le (.wrap .i64 (.add (.c (.ofNat 21)) (.a 5))) 64, .is (.a 1) (.ofNat 21), .ge (.a 5) 0, .le (.a 5) 63, .at (.eq (.a 3) (.a 4)) true, .at (.eq (.a 3) (.a 0)) true, .ge (.a 4) 0]) (ht : TabOK Try.prog val sl0 (tabW 21 true true true)) : Q val := leaf h ht (by kernel_rfl) (by kernel_rfl) (by kernel_rfl)

theorem d21 : D 21 := by
  intro val e fb wb w h ht h1 h2 h3
  cases e <;> cases fb <;> cases wb <;> cases w
  · exact d21_0000 h ht
  · exact d21_0001 h ht
  · exact d21_0010 h ht
  · exact d21_0011 h ht
  · simp at h1 h2 h3
  · simp at h1 h2 h3
  · exact d21_0110 h ht
  · exact d21_0111 h ht
  · exact d21_1000 h ht
  · exact d21_1001 h ht
  · simp at h1 h2 h3
  · simp at h1 h2 h3
  · simp at h1 h2 h3
  · simp at h1 h2 h3
  · exact d21_1110 h ht
  · exact d21_1111 h ht

theorem d22_0000 {val : Nat → Int} (h : Holds val [.ge (.wrap .i64 (.add (.c (.ofNat 22)) (.a 5))) 65, .is (.a 1) (.ofNat 22), .ge (.a 5) 0, .le (.a 5) 63, .at (.eq (.a 3) (.a 4)) false, .at (.eq (.a 3) (.a 0)) false, .at (.eq (.a 4) (.a 0)) false, .ge (.a 4) 0, .is (.wrap .i64 (.sub (.a 4) (.a 3))) (.ofNat 4194304)]) (ht : TabOK Try.prog val sl0 (tabW 22 false false false)) : Q val := leaf h ht (by kernel_rfl) (by kernel_rfl) (by kernel_rfl)
theorem d22_0001 {val : Nat → Int} (h : Holds val [.le (.wrap .i64 (.add (.c (.ofNat 22)) (.a 5))) 64, .is (.a 1) (.ofNat 22), .ge (.a 5) 0, .le (.a 5) 63, .at (.eq (.a 3) (.a 4)) false, .at (.eq (.a 3) (.a 0)) false, .at (.eq (.a 4) (.a 0)) false, .ge (.a 4) 0, .is (.wrap .i64 (.sub (.a 4) (.a 3))) (.ofNat 4194304)]) (ht : TabOK Try.prog val sl0 (tabW 22 false false true)) : Q val := leaf h ht (by kernel_rfl) (by kernel_rfl) (by kernel_rfl)
theorem d22_0010 {val : Nat → Int} (h : Holds val [.ge (.wrap .i64 (.add (.c (.ofNat 22)) (.a 5))) 65, .is (.a 1) (.ofNat 22), .ge (.a 5) 0, .le (.a 5) 63, .at (.eq (.a 3) (.a 4)) false, .at (.eq (.a 3) (.a 0)) false, .at (.eq (.a 4) (.a 0)) true, .ge (.a 4) 0, .is (.wrap .i64 (.sub (.a 4) (.a 3))) (.ofNat 4194304)]) (ht : TabOK Try.prog val sl0 (tabW 22 false true false)) : Q val := leaf h ht (by kernel_rfl) (by kernel_rfl) (by kernel_rfl)
theorem d22_0011 {val : Nat → Int} (h : Holds val [.le (.wrap .i64 (.add (.c (.ofNat 22)) (.a 5))) 64, .is (.a 1) (.ofNat 22), .ge (.a 5) 0, .le (.a 5) 63, .at (.eq (.a 3) (.a 4)) false, .at (.eq (.a 3) (.a 0)) false, .at (.eq (.a 4) (.a 0)) true, .ge (.a 4) 0, .is (.wrap .i64 (.sub (.a 4) (.a 3))) (.ofNat 4194304)]) (ht : TabOK Try.prog val sl0 (tabW 22 false true true)) : Q val := leaf h ht (by kernel_rfl) (by kernel_rfl) (by kernel_rfl)
theorem d22_0110 {val : Nat → Int} (h : Holds val [.ge (.wrap .i64 (.add (.c (.ofNat 22)) (.a 5))) 65, .is (.a 1) (.ofNat 22), .ge (.a 5) 0, .le (.a 5) 63, .at (.eq (.a 3) (.a 4)) false, .at (.eq (.a 3) (.a 0)) true, .ge (.a 4) 0, .is (.wrap .i64 (.sub (.a 4) (.a 3))) (.ofNat 4194304)]) (ht : TabOK Try.prog val sl0 (tabW 22 true true false)) : Q val := leaf h ht (by kernel_rfl) (by kernel_rfl) (by kernel_rfl)
theorem d22_0111 {val : Nat → Int} (h : Holds val [.le (.wrap .i64 (.add (.c (.ofNat 22)) (.a 5))) 64, .is (.a 1) (.ofNat 22), .ge (.a 5) 0, .le (.a 5) 63, .at (.eq (.a 3) (.a 4)) false, .at (.eq (.a 3) (.a 0)) true, .ge (.a 4) 0, .is (.wrap .i64 (.sub (.a 4) (.a 3))) (.ofNat 4194304)]) (ht : TabOK Try.prog val sl0 (tabW 22 true true true)) : Q val := leaf h ht (by kernel_rfl) (by kernel_rfl) (by kernel_rfl)
theorem d22_1000 {val : Nat → Int} (h : Holds val [.ge (.wrap .i64 (.add (.c (.ofNat 22)) (.a 5))) 65, .is (.a 1) (.ofNat 22), .ge (.a 5) 0, .le (.a 5) 63, .at (.eq (.a 3) (.a 4)) true, .at (.eq (.a 3) (.a 0)) false, .at (.eq (.a 4) (.a 0)) false, .ge (.a 4) 0]) (ht : TabOK Try.prog val sl0 (tabW 22 false false false)) : Q val := leaf h ht (by kernel_rfl) (by kernel_rfl) (by kernel_rfl)
theorem d22_1001 {val : Nat → Int} (h : Holds val [.le (.wrap .i64 (.add (.c (.ofNat 22)) (.a 5))) 64, .is (.a 1) (.ofNat 22), .ge (.a 5) 0, .le (.a 5) 63, .at (.eq (.a 3) (.a 4)) true, .at (.eq (.a 3) (.a 0)) false, .at (.eq (.a 4) (.a 0)) false, .ge (.a 4) 0]) (ht : TabOK Try.prog val sl0 (tabW 22 false false true)) : Q val := leaf h ht (by kernel_rfl) (by kernel_rfl) (by kernel_rfl)
theorem d22_1110 {val : Nat → Int} (h : Holds val [.ge (.wrap .i64 (.add (.c (.ofNat 22)) (.a 5))) 65, .is (.a 1) (.ofNat 22), .ge (.a 5) 0, .le (.a 5) 63, .at (.eq (.a 3) (.a 4)) true, .at (.eq (.a 3) (.a 0)) true, .ge (.a 4) 0]) (ht : TabOK Try.prog val sl0 (tabW 22 true true false)) : Q val := leaf h ht (by kernel_rfl) (by kernel_rfl) (by kernel_rfl)
theorem d22_1111 {val : Nat → Int} (h : Holds val [.le (.wrap .i64 (.add (.c (.ofNat 22)) (.a 5))) 64, .is (.a 1) (.ofNat 22), .ge (.a 5) 0, .le (.a 5) 63, .at (.eq (.a 3) (.a 4)) true, .at (.eq (.a 3) (.a 0)) true, .ge (.a 4) 0]) (ht : TabOK Try.prog val sl0 (tabW 22 true true true)) : Q val := leaf h ht (by kernel_rfl) (by kernel_rfl) (by kernel_rfl)

theorem d22 : D 22 := by
  intro val e fb wb w h ht h1 h2 h3
  cases e <;> cases fb <;> cases wb <;> cases w
  · exact d22_0000 h ht
  · exact d22_0001 h ht
  · exact d22_0010 h ht
  · exact d22_0011 h ht
  · simp at h1 h2 h3
  · simp at h1 h2 h3
  · exact d22_0110 h ht
  · exact d22_0111 h ht
  · exact d22_1000 h ht
  · exact d22_1001 h ht
  · simp at h1 h2 h3
  · simp at h1 h2 h3
  · simp at h1 h2 h3
  · simp at h1 h2 h3
  · exact d22_1110 h ht
  · exact d22_1111 h ht

theorem d23_0000 {val : Nat → Int} (h : Holds val [.ge (.wrap .i64 (.add (.c (.ofNat 23)) (.a 5))) 65, .is (.a 1) (.ofNat 23), .ge (.a 5) 0, .le (.a 5) 63, .at (.eq (.a 3) (.a 4)) false, .at (.eq (.a 3) (.a 0)) false, .at (.eq (.a 4) (.a 0)) false, .ge (.a 4) 0, .is (.wrap .i64 (.sub (.a 4) (.a 3))) (.ofNat 8388608)]) (ht : TabOK Try.prog val sl0 (tabW 23 false false false)) : Q val := leaf h ht (by kernel_rfl) (by kernel_rfl) (by kernel_rfl)
theorem d23_0001 {val : Nat → Int} (h : Holds val [.le (.wrap .i64 (.add (.c (.ofNat 23)) (.a 5))) 64, .is (.a 1) (.ofNat 23), .ge (.a 5) 0, .le (.a 5) 63, .at (.eq (.a 3) (.a 4)) false, .at (.eq (.a 3) (.a 0)) false, .at (.eq (.a 4) (.a 0)) false, .ge (.a 4) 0, .is (.wrap .i64 (.sub (.a 4) (.a 3))) (.ofNat 8388608)]) (ht : TabOK Try.prog val sl0 (tabW 23 false false true)) : Q val := leaf h ht (by kernel_rfl) (by kernel_rfl) (by kernel_rfl)
theorem d23_0010 {val : Nat → Int} (h : Holds val [.ge (.wrap .i64 (.add (.c (.ofNat 23)) (.a 5))) 65, .is (.a 1) (.ofNat 23), .ge (.a 5) 0, .le (.a 5) 63, .at (.eq (.a 3) (.a 4)) false, .at (.eq (.a 3) (.a 0)) false, .at (.eq (.a 4) (.a 0)) true, .ge (.a 4) 0, .is (.wrap .i64 (.sub (.a 4) (.a 3))) (.ofNat 8388608)]) (ht : TabOK Try.prog val sl0 (tabW 23 false true false)) : Q val := leaf h ht (by kernel_rfl) (by kernel_rfl) (by kernel_rfl)
theorem d23_0011 {val : Nat → Int} (h : Holds val [.le (.wrap .i64 (.add (.c (.ofNat 23)) (.a 5))) 64, .is (.a 1) (.ofNat 23), .ge (.a 5) 0, .le (.a 5) 63, .at (.eq (.a 3) (.a 4)) false, .at (.eq (.a 3) (.a 0)) false, .at (.eq (.a 4) (.a 0)) true, .ge (.a 4) 0, .is (.wrap .i64 (.sub (.a 4) (.a 3))) (.ofNat 8388608)]) (ht : TabOK Try.prog val sl0 (tabW 23 false true true)) : Q val := leaf h ht (by kernel_rfl) (by kernel_rfl) (by kernel_rfl)
theorem d23_0110 {val : Nat → Int} (h : Holds val [.ge (.wrap .i64 (.add (.c (.ofNat 23)) (.a 5))) 65, .is (.a 1) (.ofNat 23), .ge (.a 5) 0, .le (.a 5) 63, .at (.eq (.a 3) (.a 4)) false, .at (.eq (.a 3) (.a 0)) true, .ge (.a 4) 0, .is (.wrap .i64 (.sub (.a 4) (.a 3))) (.ofNat 8388608)]) (ht : TabOK Try.prog val sl0 (tabW 23 true true false)) : Q val := leaf h ht (by kernel_rfl) (by kernel_rfl) (by kernel_rfl)
theorem d23_0111 {val : Nat → Int} (h : Holds val [.le (.wrap .i64 (.add (.c (.ofNat 23)) (.a 5))) 64, .is (.a 1) (.ofNat 23), .ge (.a 5) 0, .le (.a 5) 63, .at (.eq (.a 3) (.a 4)) false, .at (.eq (.a 3) (.a 0)) true, .ge (.a 4) 0, .is (.wrap .i64 (.sub (.a 4) (.a 3))) (.ofNat 8388608)]) (ht : TabOK Try.prog val sl0 (tabW 23 true true true)) : Q val := leaf h ht (by kernel_rfl) (by kernel_rfl) (by kernel_rfl)
theorem d23_1000 {val : Nat → Int} (h : Holds val [.ge (.wrap .i64 (.add (.c (.ofNat 23)) (.a 5))) 65, .is (.a 1) (.ofNat 23), .ge (.a 5) 0, .le (.a 5) 63, .at (.eq (.a 3) (.a 4)) true, .at (.eq (.a 3) (.a 0)) false, .at (.eq (.a 4) (.a 0)) false, .ge (.a 4) 0]) (ht : TabOK Try.prog val sl0 (tabW 23 false false false)) : Q val := leaf h ht (by kernel_rfl) (by kernel_rfl) (by kernel_rfl)
theorem d23_1001 {val : Nat → Int} (h : Holds val [.le (.wrap .i64 (.add (.c (.ofNat 23)) (.a 5))) 64, .is (.a 1) (.ofNat 23), .ge (.a 5) 0, .le (.a 5) 63, .at (.eq (.a 3) (.a 4)) true, .at (.eq (.a 3) (.a 0)) false, .at (.eq (.a 4) (.a 0)) false, .ge (.a 4) 0]) (ht : TabOK Try.prog val sl0 (tabW 23 false false true)) : Q val := leaf h ht (by kernel_rfl) (by kernel_rfl) (by kernel_rfl)
theorem d23_1110 {val : Nat → Int} (h : Holds val [.ge (.wrap .i64 (.add (.c (.ofNat 23)) (.a 5))) 65, .is (.a 1) (.ofNat 23), .ge (.a 5) 0, .le (.a 5) 63, .at (.eq (.a 3) (.a 4)) true, .at (.eq (.a 3) (.a 0)) true, .ge (.a 4) 0]) (ht : TabOK Try.prog val sl0 (tabW 23 true true false)) : Q val := leaf h ht (by kernel_rfl) (by kernel_rfl) (by kernel_rfl)
theorem d23_1111 {val : Nat → Int} (h : Holds val [.le (.wrap .i64 (.add (.c (.ofNat 23)) (.a 5))) 64, .is (.a 1) (.ofNat 23), .ge (.a 5) 0, .le (.a 5) 63, .at (.eq (.a 3) (.a 4)) true, .at (.eq (.a 3) (.a 0)) true, .ge (.a 4) 0]) (ht : TabOK Try.prog val sl0 (tabW 23 true true true)) : Q val := leaf h ht (by kernel_rfl) (by kernel_rfl) (by kernel_rfl)

theorem d23 : D 23 := by
  intro val e fb wb w h ht h1 h2 h3
  cases e <;> cases fb <;> cases wb <;> cases w
  · exact d23_0000 h ht
  · exact d23_0001 h ht
  · exact d23_0010 h ht
  · exact d23_0011 h ht
  · simp at h1 h2 h3
  · simp at h1 h2 h3
  · exact d23_0110 h ht
  · exact d23_0111 h ht
  · exact d23_1000 h ht
  · exact d23_1001 h ht
  · simp at h1 h2 h3
  · simp at h1 h2 h3
  · simp at h1 h2 h3
  · simp at h1 h2 h3
  · exact d23_1110 h ht
  · exact d23_1111 h ht

theorem d24_0000 {val : Nat → Int} (h : Holds val [.ge (.wrap .i64 (.add (.c (.ofNat 24)) (.a 5))) 65, .is (.a 1) (.ofNat 24), .ge (.a 5) 0, .le (.a 5) 63, .at (.eq (.a 3) (.a 4)) false, .at (.eq (.a 3) (.a 0)) false, .at (.eq (.a 4) (.a 0)) false, .ge (.a 4) 0, .is (.wrap .i64 (.sub (.a 4) (.a 3))) (.ofNat 16777216)]) (ht : TabOK Try.prog val sl0 (tabW 24 false false false)) : Q val := leaf h ht (by kernel_rfl) (by kernel_rfl) (by kernel_rfl)
theorem d24_0001 {val : Nat → Int} (h : Holds val [.le (.wrap .i64 (.add (.c (.ofNat 24)) (.a 5))) 64, .is (.a 1) (.ofNat 24), .ge (.a 5) 0, .le (.a 5) 63, .at (.eq (.a 3) (.a 4)) false, .at (.eq (.a 3) (.a 0)) false, .at (.eq (.a 4) (.a 0)) false, .ge (.a 4) 0, .is (.wrap .i64 (.sub (.a 4) (.a 3))) (.ofNat 16777216)]) (ht : TabOK Try.prog val sl0 (tabW 24 false false true)) : Q val := leaf h ht (by kernel_rfl) (by kernel_rfl) (by kernel_rfl)
theorem d24_0010 {val : Nat → Int} (h : Holds val [.ge (.wrap .i64 (.add (.c (.ofNat 24)) (.a 5))) 65, .is (.a 1) (.ofNat 24), .ge (.a 5) 0, .le (.a 5) 63, .at (.eq (.a 3) (.a 4)) false, .at (.eq (.a 3) (.a 0)) false, .at (.eq (.a 4) (.a 0)) true, .ge (.a 4) 0, .is (.wrap .i64 (.sub (.a 4) (.a 3))) (.ofNat 16777216)]) (ht : TabOK Try.prog val sl0 (tabW 24 false true false)) : Q val := leaf h ht (by kernel_rfl) (by kernel_rfl) (by kernel_rfl)
theorem d24_0011 {val : Nat → Int} (h : Holds val [.le (.wrap .i64 (.add (.c (.ofNat 24)) (.a 5))) 64, .is (.a 1) (.ofNat 24), .ge (.a 5) 0, .le (.a 5) 63, .at (.eq (.a 3) (.a 4)) false, .at (.eq (.a 3) (.a 0)) false, .at (.eq (.a 4) (.a 0)) true, .ge (.a 4) 0, .is (.wrap .i64 (.sub (.a 4) (.a 3))) (.ofNat 16777216)]) (ht : TabOK Try.prog val sl0 (tabW 24 false true true)) : Q val := leaf h ht (by kernel_rfl) (by kernel_rfl) (by kernel_rfl)
theorem d24_0110 {val : Nat → Int} (h : Holds val [.ge (.wrap .i64 (.add (.c (.ofNat 24)) (.a 5))) 65, .is (.a 1) (.ofNat 24), .ge (.a 5) 0, .le (.a 5) 63, .at (.eq (.a 3) (.a 4)) false, .at (.eq (.a 3) (.a 0)) true, .ge (.a 4) 0, .is (.wrap .i64 (.sub (.a 4) (.a 3))) (.ofNat 16777216)]) (ht : TabOK Try.prog val sl0 (tabW 24 true true false)) : Q val := leaf h ht (by kernel_rfl) (by kernel_rfl) (by kernel_rfl)
theorem d24_0111 {val : Nat → Int} (h : Holds val [.le (.wrap .i64 (.add (.c (.ofNat 24)) (.a 5))) 64, .is (.a 1) (.ofNat 24), .ge (.a 5) 0, .le (.a 5) 63, .at (.eq (.a 3) (.a 4)) false, .at (.eq (.a 3) (.a 0)) true, .ge (.a 4) 0, .is (.wrap .i64 (.sub (.a 4) (.a 3))) (.ofNat 16777216)]) (ht : TabOK Try.prog val sl0 (tabW 24 true true true)) : Q val := leaf h ht (by kernel_rfl) (by kernel_rfl) (by kernel_rfl)
theorem d24_1000 {val : Nat → Int} (h : Holds val [.ge (.wrap .i64 (.add (.c (.ofNat 24)) (.a 5))) 65, .is (.a 1) (.ofNat 24), .ge (.a 5) 0, .le (.a 5) 63, .at (.eq (.a 3) (.a 4)) true, .at (.eq (.a 3) (.a 0)) false, .at (.eq (.a 4) (.a 0)) false, .ge (.a 4) 0]) (ht : TabOK Try.prog val sl0 (tabW 24 false false false)) : Q val := leaf h ht (by kernel_rfl) (by kernel_rfl) (by kernel_rfl)
theorem d24_1001 {val : Nat → Int} (h : Holds val [.le (.wrap .i64 (.add (.c (.ofNat 24)) (.a 5))) 64, .is (.a 1) (.ofNat 24), .ge (.a 5) 0, .le (.a 5) 63, .at (.eq (.a 3) (.a 4)) true, .at (.eq (.a 3) (.a 0)) false, .at (.eq (.a 4) (.a 0)) false, .ge (.a 4) 0]) (ht : TabOK Try.prog val sl0 (tabW 24 false false true)) : Q val := leaf h ht (by kernel_rfl) (by kernel_rfl) (by kernel_rfl)
theorem d24_1110 {val : Nat → Int} (h : Holds val [.ge (.wrap .i64 (.add (.c (.ofNat 24)) (.a 5))) 65, .is (.a 1) (.ofNat 24), .ge (.a 5) 0, .le (.a 5) 63, .at (.eq (.a 3) (.a 4)) true, .at (.eq (.a 3) (.a 0)) true, .ge (.a 4) 0]) (ht : TabOK Try.prog val sl0 (tabW 24 true true false)) : Q val := leaf h ht (by kernel_rfl) (by kernel_rfl) (by kernel_rfl)
theorem d24_1111 {val : Nat → Int} (h : Holds val [.le (.wrap .i64 (.add (.c (.ofNat 24)) (.a 5))) 64, .is (.a 1) (.ofNat 24), .ge (.a 5) 0, .le (.a 5) 63, .at (.eq (.a 3) (.a 4)) true, .at (.eq (.a 3) (.a 0)) true, .ge (.a 4) 0]) (ht : TabOK Try.prog val sl0 (tabW 24 true true true)) : Q val := leaf h ht (by kernel_rfl) (by kernel_rfl) (by kernel_rfl)

theorem d24 : D 24 := by
  intro val e fb wb w h ht h1 h2 h3
  cases e <;> cases fb <;> cases wb <;> cases w
  · exact d24_0000 h ht
  · exact d24_0001 h ht
  · exact d24_0010 h ht
  · exact d24_0011 h ht
  · simp at h1 h2 h3
  · simp at h1 h2 h3
  · exact d24_0110 h ht
  · exact d24_0111 h ht
  · exact d24_1000 h ht
  · exact d24_1001 h ht
  · simp at h1 h2 h3
  · simp at h1 h2 h3
  · simp at h1 h2 h3
  · simp at h1 h2 h3
  · exact d24_1110 h ht
  · exact d24_1111 h ht

theorem d25_0000 {val : Nat → Int} (h : Holds val [.ge (.wrap .i64 (.add (.c (.ofNat 25)) (.a 5))) 65, .is (.a 1) (.ofNat 25), .ge (.a 5) 0, .le (.a 5) 63, .at (.eq (.a 3) (.a 4)) false, .at (.eq (.a 3) (.a 0)) false, .at (.eq (.a 4) (.a 0)) false, .ge (.a 4) 0, .is (.wrap .i64 (.sub (.a 4) (.a 3))) (.ofNat 33554432)]) (ht : TabOK Try.prog val sl0 (tabW 25 false false false)) : Q val := leaf h ht (by kernel_rfl) (by kernel_rfl) (by kernel_rfl)
theorem d25_0001 {val : Nat → Int} (h : Holds val [.le (.wrap .i64 (.add (.c (.ofNat 25)) (.a 5))) 64, .is (.a 1) (.ofNat 25), .ge (.a 5) 0, .le (.a 5) 63, .at (.eq (.a 3) (.a 4)) false, .at (.eq (.a 3) (.a 0)) false, .at (.eq (.a 4) (.a 0)) false, .ge (.a 4) 0, .is (.wrap .i64 (.sub (.a 4) (.a 3))) (.ofNat 33554432)]) (ht : TabOK Try.prog val sl0 (tabW 25 false false true)) : Q val := leaf h ht (by kernel_rfl) (by kernel_rfl) (by kernel_rfl)
theorem d25_0010 {val : Nat → Int} (h : Holds val [.ge (.wrap .i64 (.add (.c (.ofNat 25)) (.a 5))) 65, .is (.a 1) (.ofNat 25), .ge (.a 5) 0, .le (.a 5) 63, .at (.eq (.a 3) (.a 4)) false, .at (.eq (.a 3) (.a 0)) false, .at (.eq (.a 4) (.a 0)) true, .ge (.a 4) 0, .is (.wrap .i64 (.sub (.a 4) (.a 3))) (.ofNat 33554432)]) (ht : TabOK Try.prog val sl0 (tabW 25 false true false)) : Q val := leaf h ht (by kernel_rfl) (by kernel_rfl) (by kernel_rfl)
theorem d25_0011 {val : Nat → Int} (h : Holds val [.le (.wrap .i64 (.add (.c (.ofNat 25)) (.a 5))) 64, .is (.a 1) (.ofNat 25), .ge (.a 5) 0, .le (.a 5) 63, .at (.eq (.a 3) (.a 4)) false, .at (.eq (.a 3) (.a 0)) false, .at (.eq (.a 4) (.a 0)) true, .ge (.a 4) 0, .is (.wrap .i64 (.sub (.a 4) (.a 3))) (.ofNat 33554432)]) (ht : TabOK Try.prog val sl0 (tabW 25 false true true)) : Q val := leaf h ht (by kernel_rfl) (by kernel_rfl) (by kernel_rfl)
theorem d25_0110 {val : Nat → Int} (h : Holds val [.ge (.wrap .i64 (.add (.c (.ofNat 25)) (.a 5))) 65, .is (.a 1) (.ofNat 25), .ge (.a 5) 0, .le (.a 5) 63, .at (.eq (.a 3) (.a 4)) false, .at (.eq (.a 3) (.a 0)) true, .ge (.a 4) 0, .is (.wrap .i64 (.sub (.a 4) (.a 3))) (.ofNat 33554432)]) (ht : TabOK Try.prog val sl0 (tabW 25 true true false)) : Q val := leaf h ht (by kernel_rfl) (by kernel_rfl) (by kernel_rfl)
theorem d25_0111 {val : Nat → Int} (h : Holds val [.le (.wrap .i64 (.add (.c (.ofNat 25)) (.a 5))) 64, .is (.a 1) (.ofNat 25), .ge (.a 5) 0, .le (.a 5) 63, .at (.eq (.a 3) (.a 4)) false, .at (.eq (.a 3) (.a 0)) true, .ge (.a 4) 0, .is (.wrap .i64 (.sub (.a 4) (.a 3))) (.ofNat 33554432)]) (ht : TabOK Try.prog val sl0 (tabW 25 true true true)) : Q val := leaf h ht (by kernel_rfl) (by kernel_rfl) (by kernel_rfl)
theorem d25_1000 {val : Nat → Int} (h : Holds val [.ge (.wrap .i64 (.add (.c (.ofNat 25)) (.a 5))) 65, .is (.a 1) (.ofNat 25), .ge (.a 5) 0, .le (.a 5) 63, .at (.eq (.a 3) (.a 4)) true, .at (.eq (.a 3) (.a 0)) false, .at (.eq (.a 4) (.a 0)) false, .ge (.a 4) 0]) (ht : TabOK Try.prog val sl0 (tabW 25 false false false)) : Q val := leaf h ht (by kernel_rfl) (by kernel_rfl) (by kernel_rfl)
theorem d25_1001 {val : Nat → Int} (h : Holds val [.le (.wrap .i64 (.add (.c (.ofNat 25)) (.a 5))) 64, .is (.a 1) (.ofNat 25), .ge (.a 5) 0, .le (.a 5) 63, .at (.eq (.a 3) (.a 4)) true, .at (.eq (.a 3) (.a 0)) false, .at (.eq (.a 4) (.a 0)) false, .ge (.a 4) 0]) (ht : TabOK Try.prog val sl0 (tabW 25 false false true)) : Q val := leaf h ht (by kernel_rfl) (by kernel_rfl) (by kernel_rfl)
theorem d25_1110 {val : Nat → Int} (h : Holds val [.ge (.wrap .i64 (.add (.c (.ofNat 25)) (.a 5))) 65, .is (.a 1) (.ofNat 25), .ge (.a 5) 0, .le (.a 5) 63, .at (.eq (.a 3) (.a 4)) true, .at (.eq (.a 3) (.a 0)) true, .ge (.a 4) 0]) (ht : TabOK Try.prog val sl0 (tabW 25 true true false)) : Q val := leaf h ht (by kernel_rfl) (by kernel_rfl) (by kernel_rfl)
theorem d25_1111 {val : Nat → Int} (h : Holds val [.le (.wrap .i64 (.add (.c (.ofNat 25)) (.a 5))) 64, .is (.a 1) (.ofNat 25), .ge (.a 5) 0, .le (.a 5) 63, .at (.eq (.a 3) (.a 4)) true, .at (.eq (.a 3) (.a 0)) true, .ge (.a 4) 0]) (ht : TabOK Try.prog val sl0 (tabW 25 true true true)) : Q val := leaf h ht (by kernel_rfl) (by kernel_rfl) (by kernel_rfl)

theorem d25 : D 25 := by
  intro val e fb wb w h ht h1 h2 h3
  cases e <;> cases fb <;> cases wb <;> cases w
  · exact d25_0000 h ht
  · exact d25_0001 h ht
  · exact d25_0010 h ht
  · exact d25_0011 h ht
  · simp at h1 h2 h3
  · simp at h1 h2 h3
  · exact d25_0110 h ht
  · exact d25_0111 h ht
  · exact d25_1000 h ht
  · exact d25_1001 h ht
  · simp at h1 h2 h3
  · simp at h1 h2 h3
  · simp at h1 h2 h3
  · simp at h1 h2 h3
  · exact d25_1110 h ht
  · exact d25_1111 h ht

theorem d26_0000 {val : Nat → Int} (h : Holds val [.ge (.wrap .i64 (.add (.c (.ofNat 26)) (.a 5))) 65, .is (.a 1) (.ofNat 26), .ge (.a 5) 0, .le (.a 5) 63, .at (.eq (.a 3) (.a 4)) false, .at (.eq (.a 3) (.a 0)) false, .at (.eq (.a 4) (.a 0)) false, .ge (.a 4) 0, .is (.wrap .i64 (.sub (.a 4) (.a 3))) (.ofNat 67108864)]) (ht : TabOK Try.prog val sl0 (tabW 26 false false false)) : Q val := leaf h ht (by kernel_rfl) (by kernel_rfl) (by kernel_rfl)
theorem d26_0001 {val : Nat → Int} (h : Holds val [.le (.wrap .i64 (.add (.c (.ofNat 26)) (.a 5))) 64, .is (.a 1) (.ofNat 26), .ge (.a 5) 0, .le (.a 5) 63, .at (.eq (.a 3) (.a 4)) false, .at (.eq (.a 3) (.a 0)) false, .at (.eq (.a 4) (.a 0)) false, .ge (.a 4) 0, .is (.wrap .i64 (.sub (.a 4) (.a 3))) (.ofNat 67108864)]) (ht : TabOK Try.prog val sl0 (tabW 26 false false true)) : Q val := leaf h ht (by kernel_rfl) (by kernel_rfl) (by kernel_rfl)
theorem d26_0010 {val : Nat → Int} (h : Holds val [.ge (.wrap .i64 (.add (.c (.ofNat 26)) (.a 5))) 65, .is (.a 1) (.ofNat 26), .ge (.a 5) 0, .le (.a 5) 63, .at (.eq (.a 3) (.a 4)) false, .at (.eq (.a 3) (.a 0)) false, .at (.eq (.a 4) (.a 0)) true, .ge (.a 4) 0, .is (.wrap .i64 (.sub (.a 4) (.a 3))) (.ofNat 67108864)]) (ht : TabOK Try.prog val sl0 (tabW 26 false true false)) : Q val := leaf h ht (by kernel_rfl) (by kernel_rfl) (by kernel_rfl)
theorem d26_0011 {val : Nat → Int} (h : Holds val [.le (.wrap .i64 (.add (.c (.ofNat 26)) (.a 5))) 64, .is (.a 1) (.ofNat 26), .ge (.a 5) 0, .le (.a 5) 63, .at (.eq (.a 3) (.a 4)) false, .at (.eq (.a 3) (.a 0)) false, .at (.eq (.a 4) (.a 0)) true, .ge (.a 4) 0, .is (.wrap .i64 (.sub (.a 4) (.a 3))) (.ofNat 67108864)]) (ht : TabOK Try.prog val sl0 (tabW 26 false true true)) : Q val := leaf h ht (by kernel_rfl) (by kernel_rfl) (by kernel_rfl)
theorem d26_0110 {val : Nat → Int} (h : Holds val [.ge (.wrap .i64 (.add (.c (.ofNat 26)) (.a 5))) 65, .is (.a 1) (.ofNat 26), .ge (.a 5) 0, .le (.a 5) 63, .at (.eq (.a 3) (.a 4)) false, .at (.eq (.a 3) (.a 0)) true, .ge (.a 4) 0, .is (.wrap .i64 (.sub (.a 4) (.a 3))) (.ofNat 67108864)]) (ht : TabOK Try.prog val sl0 (tabW 26 true true false)) : Q val := leaf h ht (by kernel_rfl) (by kernel_rfl) (by kernel_rfl)
theorem d26_0111 {val : Nat → Int} (h : Holds val [.le (.wrap .i64 (.add (.c (.ofNat 26)) (.a 5))) 64, .is (.a 1) (.ofNat 26), .ge (.a 5) 0, .le (.a 5) 63, .at (.eq (.a 3) (.a 4)) false, .at (.eq (.a 3) (.a 0)) true, .ge (.a 4) 0, .is (.wrap .i64 (.sub (.a 4) (.a 3))) (.ofNat 67108864)]) (ht : TabOK Try.prog val sl0 (tabW 26 true true true)) : Q val := leaf h ht (by kernel_rfl) (by kernel_rfl) (by kernel_rfl)
theorem d26_1000 {val : Nat → Int} (h : Holds val [.ge (.wrap .i64 (.add (.c (.ofNat 26)) (.a 5))) 65, .is (.a 1) (.ofNat 26), .ge (.a 5) 0, .le (.a 5) 63, .at (.eq (.a 3) (.a 4)) true, .at (.eq (.a 3) (.a 0)) false, .at (.eq (.a 4) (.a 0)) false, .ge (.a 4) 0]) (ht : TabOK Try.prog val sl0 (tabW 26 false false false)) : Q val := leaf h ht (by kernel_rfl) (by kernel_rfl) (by kernel_rfl)
theorem d26_1001 {val : Nat → Int} (h : Holds val [.le (.wrap .i64 (.add (.c (.ofNat 26)) (.a 5))) 64, .is (.a 1) (.ofNat 26), .ge (.a 5) 0, .le (.a 5) 63, .at (.eq (.a 3) (.a 4)) true, .at (.eq (.a 3) (.a 0)) false, .at (.eq (.a 4) (.a 0)) false, .ge (.a 4) 0]) (ht : TabOK Try.prog val sl0 (tabW 26 false false true)) : Q val := leaf h ht (by kernel_rfl) (by kernel_rfl) (by kernel_rfl)
theorem d26_1110 {val : Nat → Int} (h : Holds val [.ge (.wrap .i64 (.add (.c (.ofNat 26)) (.a 5))) 65, .is (.a 1) (.ofNat 26), .ge (.a 5) 0, .le (.a 5) 63, .at (.eq (.a 3) (.a 4)) true, .at (.eq (.a 3) (.a 0)) true, .ge (.a 4) 0]) (ht : TabOK Try.prog val sl0 (tabW 26 true true false)) : Q val := leaf h ht (by kernel_rfl) (by kernel_rfl) (by kernel_rfl)
theorem d26_1111 {val : Nat → Int} (h : Holds val [.le (.wrap .i64 (.add (.c (.ofNat 26)) (.a 5))) 64, .is (.a 1) (.ofNat 26), .ge (.a 5) 0, .le (.a 5) 63, .at (.eq (.a 3) (.a 4)) true, .at (.eq (.a 3) (.a 0)) true, .ge (.a 4) 0]) (ht : TabOK Try.prog val sl0 (tabW 26 true true true)) : Q val := leaf h ht (by kernel_rfl) (by kernel_rfl) (by kernel_rfl)

theorem d26 : D 26 := by
  intro val e fb wb w h ht h1 h2 h3
  cases e <;> cases fb <;> cases wb <;> cases w
  · exact d26_0000 h ht
  · exact d26_0001 h ht
  · exact d26_0010 h ht
  · exact d26_0011 h ht
  · simp at h1 h2 h3
  · simp at h1 h2 h3
  · exact d26_0110 h ht
  · exact d26_0111 h ht
  · exact d26_1000 h ht
  · exact d26_1001 h ht
  · simp at h1 h2 h3
  · simp at h1 h2 h3
  · simp at h1 h2 h3
  · simp at h1 h2 h3
  · exact d26_1110 h ht
  · exact d26_1111 h ht

theorem d27_0000 {val : Nat → Int} (h : Holds val [.ge (.wrap .i64 (.add (.c (.ofNat 27)) (.a 5))) 65, .is (.a 1) (.ofNat 27), .ge (.a 5) 0, .le (.a 5) 63, .at (.eq (.a 3) (.a 4)) false, .at (.eq (.a 3) (.a 0)) false, .at (.eq (.a 4) (.a 0)) false, .ge (.a 4) 0, .is (.wrap .i64 (.sub (.a 4) (.a 3))) (.ofNat 134217728)]) (ht : TabOK Try.prog val sl0 (tabW 27 false false false)) : Q val := leaf h ht (by kernel_rfl) (by kernel_rfl) (by kernel_rfl)
theorem d27_0001 {val : Nat → Int} (h : Holds val [.le (.wrap .i64 (.add (.c (.ofNat 27)) (.a 5))) 64, .is (.a 1) (.ofNat 27), .ge (.a 5) 0, .le (.a 5) 63, .at (.eq (.a 3) (.a 4)) false, .at (.eq (.a 3) (.a 0)) false, .at (.eq (.a 4) (.a 0)) false, .ge (.a 4) 0, .is (.wrap .i64 (.sub (.a 4) (.a 3))) (.ofNat 134217728)]) (ht : TabOK Try.prog val sl0 (tabW 27 false false true)) : Q val := leaf h ht (by kernel_rfl) (by kernel_rfl) (by kernel_rfl)
theorem d27_0010 {val : Nat → Int} (h : Holds val [.ge (.wrap .i64 (.add (.c (.ofNat 27)) (.a 5))) 65, .is (.a 1) (.ofNat 27), .ge (.a 5) 0, .le (.a 5) 63, .at (.eq (.a 3) (.a 4)) false, .at (.eq (.a 3) (.a 0)) false, .at (.eq (.a 4) (.a 0)) true, .ge (.a 4) 0, .is (.wrap .i64 (.sub (.a 4) (.a 3))) (.ofNat 134217728)]) (ht : TabOK Try.prog val sl0 (tabW 27 false true false)) : Q val := leaf h ht (by kernel_rfl) (by kernel_rfl) (by kernel_rfl)
theorem d27_0011 {val : Nat → Int} (h : Holds val [.le (.wrap .i64 (.add (.c (.ofNat 27)) (.a 5))) 64, .is (.a 1) (.ofNat 27), .ge (.a 5) 0, .le (.a 5) 63, .at (.eq (.a 3) (.a 4)) false, .at (.eq (.a 3) (.a 0)) false, .at (.eq (.a 4) (.a 0)) true, .ge (.a 4) 0, .is (.wrap .i64 (.sub (.a 4) (.a 3))) (.ofNat 134217728)]) (ht : TabOK Try.prog val sl0 (tabW 27 false true true)) : Q val := leaf h ht (by kernel_rfl) (by kernel_rfl) (by kernel_rfl)
theorem d27_0110 {val : Nat → Int} (h : Holds val [.ge (.wrap .i64 (.add (.c (.ofNat 27)) (.a 5))) 65, .is (.a 1) (.ofNat 27), .ge (.a 5) 0, .le (.a 5) 63, .at (.eq (.a 3) (.a 4)) false, .at (.eq (.a 3) (.a 0)) true, .ge (.a 4) 0, .is (.wrap .i64 (.sub (.a 4) (.a 3))) (.ofNat 134217728)]) (ht : TabOK Try.prog val sl0 (tabW 27 true true false)) : Q val := leaf h ht (by kernel_rfl) (by kernel_rfl) (by kernel_rfl)
theorem d27_0111 {val : Nat → Int} (h : Holds val [.le (.wrap .i64 (.add (.c (.ofNat 27)) (.a 5))) 64, .is (.a 1) (.ofNat 27), .ge (.a 5) 0, .le (.a 5) 63, .at (.eq (.a 3) (.a 4)) false, .at (.eq (.a 3) (.a 0)) true, .ge (.a 4) 0, .is (.wrap .i64 (.sub (.a 4) (.a 3))) (.ofNat 134217728)]) (ht : TabOK Try.prog val sl0 (tabW 27 true true true)) : Q val := leaf h ht (by kernel_rfl) (by kernel_rfl) (by kernel_rfl)
theorem d27_1000 {val : Nat → Int} (h : Holds val [.ge (.wrap .i64 (.add (.c (.ofNat 27)) (.a 5))) 65, .is (.a 1) (.ofNat 27), .ge (.a 5) 0, .le (.a 5) 63, .at (.eq (.a 3) (.a 4)) true, .at (.eq (.a 3) (.a 0)) false, .at (.eq (.a 4) (.a 0)) false, .ge (.a 4) 0]) (ht : TabOK Try.prog val sl0 (tabW 27 false false false)) : Q val := leaf h ht (by kernel_rfl) (by kernel_rfl) (by kernel_rfl)
theorem d27_1001 {val : Nat → Int} (h : Holds val [.le (.wrap .i64 (.add (.c (.ofNat 27)) (.a 5))) 64, .is (.a 1) (.ofNat 27), .ge (.a 5) 0, .le (.a 5) 63, .at (.eq (.a 3) (.a 4)) true, .at (.eq (.a 3) (.a 0)) false, .at (.eq (.a 4) (.a 0)) false, .ge (.a 4) 0]) (ht : TabOK Try.prog val sl0 (tabW 27 false false true)) : Q val := leaf h ht (by kernel_rfl) (by kernel_rfl) (by kernel_rfl)
theorem d27_1110 {val : Nat → Int} (h : Holds val [.ge (.wrap .i64 (.add (.c (.ofNat 27)) (.a 5))) 65, .is (.a 1) (.ofNat 27), .ge (.a 5) 0, .le (.a 5) 63, .at (.eq (.a 3) (.a 4)) true, .at (.eq (.a 3) (.a 0)) true, .ge (.a 4) 0]) (ht : TabOK Try.prog val sl0 (tabW 27 true true false)) : Q val := leaf h ht (by kernel_rfl) (by kernel_rfl) (by kernel_rfl)
theorem d27_1111 {val : Nat → Int} (h : Holds val [.le (.wrap .i64 (.add (.c (.ofNat 27)) (.a 5))) 64, .is (.a 1) (.ofNat 27), .ge (.a 5) 0, .le (.a 5) 63, .at (.eq (.a 3) (.a 4)) true, .at (.eq (.a 3) (.a 0)) true, .ge (.a 4) 0]) (ht : TabOK Try.prog val sl0 (tabW 27 true true true)) : Q val := leaf h ht (by kernel_rfl) (by kernel_rfl) (by kernel_rfl)

theorem d27 : D 27 := by
  intro val e fb wb w h ht h1 h2 h3
  cases e <;> cases fb <;> cases wb <;> cases w
  · exact d27_0000 h ht
  · exact d27_0001 h ht
  · exact d27_0010 h ht
  · exact d27_0011 h ht
  · simp at h1 h2 h3
  · simp at h1 h2 h3
  · exact d27_0110 h ht
  · exact d27_0111 h ht
  · exact d27_1000 h ht
  · exact d27_1001 h ht
  · simp at h1 h2 h3
  · simp at h1 h2 h3
  · simp at h1 h2 h3
  · simp at h1 h2 h3
  · exact d27_1110 h ht
  · exact d27_1111 h ht

theorem d28_0000 {val : Nat → Int} (h : Holds val [.ge (.wrap .i64 (.add (.c (.ofNat 28)) (.a 5))) 65, .is (.a 1) (.ofNat 28), .ge (.a 5) 0, .le (.a 5) 63, .at (.eq (.a 3) (.a 4)) false, .at (.eq (.a 3) (.a 0)) false, .at (.eq (.a 4) (.a 0)) false, .ge (.a 4) 0, .is (.wrap .i64 (.sub (.a 4) (.a 3))) (.ofNat 268435456)]) (ht : TabOK Try.prog val sl0 (tabW 28 false false false)) : Q val := leaf h ht (by kernel_rfl) (by kernel_rfl) (by kernel_rfl)
theorem d28_0001 {val : Nat → Int} (h : Holds val [.le (.wrap .i64 (.add (.c (.ofNat 28)) (.a 5))) 64, .is (.a 1) (.ofNat 28), .ge (.a 5) 0, .le (.a 5) 63, .at (.eq (.a 3) (.a 4)) false, .at (.eq (.a 3) (.a 0)) false, .at (.eq (.a 4) (.a 0)) false, .ge (.a 4) 0, .is (.wrap .i64 (.sub (.a 4) (.a 3))) (.ofNat 268435456)]) (ht : TabOK Try.prog val sl0 (tabW 28 false false true)) : Q val := leaf h ht (by kernel_rfl) (by kernel_rfl) (by kernel_rfl)
theorem d28_0010 {val : Nat → Int} (h : Holds val [.ge (.wrap .i64 (.add (.c (.ofNat 28)) (.a 5))) 65, .is (.a 1) (.ofNat 28), .ge (.a 5) 0, .le (.a 5) 63, .at (.eq (.a 3) (.a 4)) false, .at (.eq (.a 3) (.a 0)) false, .at (.eq (.a 4) (.a 0)) true, .ge (.a 4) 0, .is (.wrap .i64 (.sub (.a 4) (.a 3))) (.ofNat 268435456)]) (ht : TabOK Try.prog val sl0 (tabW 28 false true false)) : Q val := leaf h ht (by kernel_rfl) (by kernel_rfl) (by kernel_rfl)
theorem d28_0011 {val : Nat → Int} (h : Holds val [.le (.wrap .i64 (.add (.c (.ofNat 28)) (.a 5))) 64, .is (.a 1) (.ofNat 28), .ge (.a 5) 0, .le (.a 5) 63, .at (.eq (.a 3) (.a 4)) false, .at (.eq (.a 3) (.a 0)) false, .at (.eq (.a 4) (.a 0)) true, .ge (.a 4) 0, .is (.wrap .i64 (.sub (.a 4) (.a 3))) (.ofNat 268435456)]) (ht : TabOK Try.prog val sl0 (tabW 28 false true true)) : Q val := leaf h ht (by kernel_rfl) (by kernel_rfl) (by kernel_rfl)
theorem d28_0110 {val : Nat → Int} (h : Holds val [.ge (.wrap .i64 (.add (.c (.ofNat 28)) (.a 5))) 65, .is (.a 1) (.ofNat 28), .ge (.a 5) 0, .le (.a 5) 63, .at (.eq (.a 3) (.a 4)) false, .at (.eq (.a 3) (.a 0)) true, .ge (.a 4) 0, .is (.wrap .i64 (.sub (.a 4) (.a 3))) (.ofNat 268435456)]) (ht : TabOK Try.prog val sl0 (tabW 28 true true false)) : Q val := leaf h ht (by kernel_rfl) (by kernel_rfl) (by kernel_rfl)
theorem d28_0111 {val : Nat → Int} (h : Holds val [.le (.wrap .i64 (.add (.c (.ofNat 28)) (.a 5))) 64, .is (.a 1) (.ofNat 28), .ge (.a 5) 0, .le (.a 5) 63, .at (.eq (.a 3) (.a 4)) false, .at (.eq (.a 3) (.a 0)) true, .ge (.a 4) 0, .is (.wrap .i64 (.sub (.a 4) (.a 3))) (.ofNat 268435456)]) (ht : TabOK Try.prog val sl0 (tabW 28 true true true)) : Q val := leaf h ht (by kernel_rfl) (by kernel_rfl) (by kernel_rfl)
theorem d28_1000 {val : Nat → Int} (h : Holds val [.ge (.wrap .i64 (.add (.c (.ofNat 28)) (.a 5))) 65, .is (.a 1) (.ofNat 28), .ge (.a 5) 0, .le (.a 5) 63, .at (.eq (.a 3) (.a 4)) true, .at (.eq (.a 3) (.a 0)) false, .at (.eq (.a 4) (.a 0)) false, .ge (.a 4) 0]) (ht : TabOK Try.prog val sl0 (tabW 28 false false false)) : Q val := leaf h ht (by kernel_rfl) (by kernel_rfl) (by kernel_rfl)
theorem d28_1001 {val : Nat → Int} (h : Holds val [.le (.wrap .i64 (.add (.c (.ofNat 28)) (.a 5))) 64, .is (.a 1) (.ofNat 28), .ge (.a 5) 0, .le (.a 5) 63, .at (.eq (.a 3) (.a 4)) true, .at (.eq (.a 3) (.a 0)) false, .at (.eq (.a 4) (.a 0)) false, .ge (.a 4) 0]) (ht : TabOK Try.prog val sl0 (tabW 28 false false true)) : Q val := leaf h ht (by kernel_rfl) (by kernel_rfl) (by kernel_rfl)
theorem d28_1110 {val : Nat → Int} (h : Holds val [.ge (.wrap .i64 (.add (.c (.ofNat 28)) (.a 5))) 65, .is (.a 1) (.ofNat 28), .ge (.a 5) 0, .le (.a 5) 63, .at (.eq (.a 3) (.a 4)) true, .at (.eq (.a 3) (.a 0)) true, .ge (.a 4) 0]) (ht : TabOK Try.prog val sl0 (tabW 28 true true false)) : Q val := leaf h ht (by kernel_rfl) (by kernel_rfl) (by kernel_rfl)
theorem d28_1111 {val : Nat → Int} (h : Holds val [.le (.wrap .i64 (.add (.c (.ofNat 28)) (.a 5))) 64, .is (.a 1) (.ofNat 28), .ge (.a 5) 0, .le (.a 5) 63, .at (.eq (.a 3) (.a 4)) true, .at (.eq (.a 3) (.a 0)) true, .ge (.a 4) 0]) (ht : TabOK Try.prog val sl0 (tabW 28 true true true)) : Q val := leaf h ht (by kernel_rfl) (by kernel_rfl) (by kernel_rfl)

theorem d28 : D 28 := by
  intro val e fb wb w h ht h1 h2 h3
  cases e <;> cases fb <;> cases wb <;> cases w
  · exact d28_0000 h ht
  · exact d28_0001 h ht
  · exact d28_0010 h ht
  · exact d28_0011 h ht
  · simp at h1 h2 h3
  · simp at h1 h2 h3
  · exact d28_0110 h ht
  · exact d28_0111 h ht
  · exact d28_1000 h ht
  · exact d28_1001 h ht
  · simp at h1 h2 h3
  · simp at h1 h2 h3
  · simp at h1 h2 h3
  · simp at h1 h2 h3
  · exact d28_1110 h ht
  · exact d28_1111 h ht

theorem d29_0000 {val : Nat → Int} (h : Holds val [.ge (.wrap .i64 (.add (.c (.ofNat 29)) (.a 5))) 65, .is (.a 1) (.ofNat 29), .ge (.a 5) 0, .le (.a 5) 63, .at (.eq (.a 3) (.a 4)) false, .at (.eq (.a 3) (.a 0)) false, .at (.eq (.a 4) (.a 0)) false, .ge (.a 4) 0, .is (.wrap .i64 (.sub (.a 4) (.a 3))) (.ofNat 536870912)]) (ht : TabOK Try.prog val sl0 (tabW 29 false false false)) : Q val := leaf h ht (by kernel_rfl) (by kernel_rfl) (by kernel_rfl)
theorem d29_0001 {val : Nat → Int} (h : Holds val [.le (.wrap .i64 (.add (.c (.ofNat 29)) (.a 5))) 64, .is (.a 1) (.ofNat 29), .ge (.a 5) 0, .le (.a 5) 63, .at (.eq (.a 3) (.a 4)) false, .at (.eq (.a 3) (.a 0)) false, .at (.eq (.a 4) (.a 0)) false, .ge (.a 4) 0, .is (.wrap .i64 (.sub (.a 4) (.a 3))) (.ofNat 536870912)]) (ht : TabOK Try.prog val sl0 (tabW 29 false false true)) : Q val := leaf h ht (by kernel_rfl) (by kernel_rfl) (by kernel_rfl)
theorem d29_0010 {val : Nat → Int} (h : Holds val [.ge (.wrap .i64 (.add (.c (.ofNat 29)) (.a 5))) 65, .is (.a 1) (.ofNat 29), .ge (.a 5) 0, .le (.a 5) 63, .at (.eq (.a 3) (.a 4)) false, .at (.eq (.a 3) (.a 0)) false, .at (.eq (.a 4) (.a 0)) true, .ge (.a 4) 0, .is (.wrap .i64 (.sub (.a 4) (.a 3))) (.ofNat 536870912)]) (ht : TabOK Try.prog val sl0 (tabW 29 false true false)) : Q val := leaf h ht (by kernel_rfl) (by kernel_rfl) (by kernel_rfl)
theorem d29_0011 {val : Nat → Int} (h : Holds val [.le (.wrap .i64 (.add (.c (.ofNat 29)) (.a 5))) 64, .is (.a 1) (.ofNat 29), .ge (.a 5) 0, .le (.a 5) 63, .at (.eq (.a 3) (.a 4)) false, .at (.eq (.a 3) (.a 0)) false, .at (.eq (.a 4) (.a 0)) true, .ge (.a 4) 0, .is (.wrap .i64 (.sub (.a 4) (.a 3))) (.ofNat 536870912)]) (ht : TabOK Try.prog val sl0 (tabW 29 false true true)) : Q val := leaf h ht (by kernel_rfl) (by kernel_rfl) (by kernel_rfl)
theorem d29_0110 {val : Nat → Int} (h : Holds val [.ge (.wrap .i64 (.add (.c (.ofNat 29)) (.a 5))) 65, .is (.a 1) (.ofNat 29), .ge (.a 5) 0, .le (.a 5) 63, .at (.eq (.a 3) (.a 4)) false, .at (.eq (.a 3) (.a 0)) true, .ge (.a 4) 0, .is (.wrap .i64 (.sub (.a 4) (.a 3))) (.ofNat 536870912)]) (ht : TabOK Try.prog val sl0 (tabW 29 true true false)) : Q val := leaf h ht (by kernel_rfl) (by kernel_rfl) (by kernel_rfl)
theorem d29_0111 {val : Nat → Int} (h : Holds val [.le (.wrap .i64 (.add (.c (.ofNat 29)) (.a 5))) 64, .is (.a 1) (.ofNat 29), .ge (.a 5) 0, .le (.a 5) 63, .at (.eq (.a 3) (.a 4)) false, .at (.eq (.a 3) (.a 0)) true, .ge (.a 4) 0, .is (.wrap .i64 (.sub (.a 4) (.a 3))) (.ofNat 536870912)]) (ht : TabOK Try.prog val sl0 (tabW 29 true true true)) : Q val := leaf h ht (by kernel_rfl) (by kernel_rfl) (by kernel_rfl)
theorem d29_1000 {val : Nat → Int} (h : Holds val [.ge (.wrap .i64 (.add (.c (.ofNat 29)) (.a 5))) 65, .is (.a 1) (.ofNat 29), .ge (.a 5) 0, .le (.a 5) 63, .at (.eq (.a 3) (.a 4)) true, .at (.eq (.a 3) (.a 0)) false, .at (.eq (.a 4) (.a 0)) false, .ge (.a 4) 0]) (ht : TabOK Try.prog val sl0 (tabW 29 false false false)) : Q val := leaf h ht (by kernel_rfl) (by kernel_rfl) (by kernel_rfl)
theorem d29_1001 {val : Nat → Int} (h : Holds val [.le (.wrap .i64 (.add (.c (.ofNat 29)) (.a 5))) 64, .is (.a 1) (.ofNat 29), .ge (.a 5) 0, .le (.a 5) 63, .at (.eq (.a 3) (.a 4)) true, .at (.eq (.a 3) (.a 0)) false, .at (.eq (.a 4) (.a 0)) false, .ge (.a 4) 0]) (ht : TabOK Try.prog val sl0 (tabW 29 false false true)) : Q val := leaf h ht (by kernel_rfl) (by kernel_rfl) (by kernel_rfl)
theorem d29_1110 {val : Nat → Int} (h : Holds val [.ge (.wrap .i64 (.add (.c (.ofNat 29)) (.a 5))) 65, .is (.a 1) (.ofNat 29), .ge (.a 5) 0, .le (.a 5) 63, .at (.eq (.a 3) (.a 4)) true, .at (.eq (.a 3) (.a 0)) true, .ge (.a 4) 0]) (ht : TabOK Try.prog val sl0 (tabW 29 true true false)) : Q val := leaf h ht (by kernel_rfl) (by kernel_rfl) (by kernel_rfl)
theorem d29_1111 {val : Nat → Int} (h : Holds val [.le (.wrap .i64 (.add (.c (.ofNat 29)) (.a 5))) 64, .is (.a 1) (.ofNat 29), .ge (.a 5) 0, .le (.a 5) 63, .at (.eq (.a 3) (.a 4)) true, .at (.eq (.a 3) (.a 0)) true, .ge (.a 4) 0]) (ht : TabOK Try.prog val sl0 (tabW 29 true true true)) : Q val := leaf h ht (by kernel_rfl) (by kernel_rfl) (by kernel_rfl)

theorem d29 : D 29 := by
  intro val e fb wb w h ht h1 h2 h3
  cases e <;> cases fb <;> cases wb <;> cases w
  · exact d29_0000 h ht
  · exact d29_0001 h ht
  · exact d29_0010 h ht
  · exact d29_0011 h ht
  · simp at h1 h2 h3
  · simp at h1 h2 h3
  · exact d29_0110 h ht
  · exact d29_0111 h ht
  · exact d29_1000 h ht
  · exact d29_1001 h ht
  · simp at h1 h2 h3
  · simp at h1 h2 h3
  · simp at h1 h2 h3
  · simp at h1 h2 h3
  · exact d29_1110 h ht
  · exact d29_1111 h ht

theorem d30_0000 {val : Nat → Int} (h : Holds val [.ge (.wrap .i64 (.add (.c (.ofNat 30)) (.a 5))) 65, .is (.a 1) (.ofNat 30), .ge (.a 5) 0, .le (.a 5) 63, .at (.eq (.a 3) (.a 4)) false, .at (.eq (.a 3) (.a 0)) false, .at (.eq (.a 4) (.a 0)) false, .ge (.a 4) 0, .is (.wrap .i64 (.sub (.a 4) (.a 3))) (.ofNat 1073741824)]) (ht : TabOK Try.prog val sl0 (tabW 30 false false false)) : Q val := leaf h ht (by kernel_rfl) (by kernel_rfl) (by kernel_rfl)
theorem d30_0001 {val : Nat → Int} (h : Holds val [.le (.wrap .i64 (.add (.c (.ofNat 30)) (.a 5))) 64, .is (.a 1) (.ofNat 30), .ge (.a 5) 0, .le (.a 5) 63, .at (.eq (.a 3) (.a 4)) false, .at (.eq (.a 3) (.a 0)) false, .at (.eq (.a 4) (.a 0)) false, .ge (.a 4) 0, .is (.wrap .i64 (.sub (.a 4) (.a 3))) (.ofNat 1073741824)]) (ht : TabOK Try.prog val sl0 (tabW 30 false false true)) : Q val := leaf h ht (by kernel_rfl) (by kernel_rfl) (by kernel_rfl)
theorem d30_0010 {val : Nat → Int} (h : Holds val [.ge (.wrap .i64 (.add (.c (.ofNat 30)) (.a 5))) 65, .is (.a 1) (.ofNat 30), .ge (.a 5) 0, .le (.a 5) 63, .at (.eq (.a 3) (.a 4)) false, .at (.eq (.a 3) (.a 0)) false, .at (.eq (.a 4) (.a 0)) true, .ge (.a 4) 0, .is (.wrap .i64 (.sub (.a 4) (.a 3))) (.ofNat 1073741824)]) (ht : TabOK Try.prog val sl0 (tabW 30 false true false)) : Q val := leaf h ht (by kernel_rfl) (by kernel_rfl) (by kernel_rfl)
theorem d30_0011 {val : Nat → Int} (h : Holds val [.le (.wrap .i64 (.add (.c (.ofNat 30)) (.a 5))) 64, .is (.a 1) (.ofNat 30), .ge (.a 5) 0, .le (.a 5) 63, .at (.eq (.a 3) (.a 4)) false, .at (.eq (.a 3) (.a 0)) false, .at (.eq (.a 4) (.a 0)) true, .ge (.a 4) 0, .is (.wrap .i64 (.sub (.a 4) (.a 3))) (.ofNat 1073741824)]) (ht : TabOK Try.prog val sl0 (tabW 30 false true true)) : Q val := leaf h ht (by kernel_rfl) (by kernel_rfl) (by kernel_rfl)
theorem d30_0110 {val : Nat → Int} (h : Holds val [.ge (.wrap .i64 (.add (.c (.ofNat 30)) (.a 5))) 65, .is (.a 1) (.ofNat 30), .ge (.a 5) 0, .le (.a 5) 63, .at (.eq (.a 3) (.a 4)) false, .at (.eq (.a 3) (.a 0)) true, .ge (.a 4) 0, .is (.wrap .i64 (.sub (.a 4) (.a 3))) (.ofNat 1073741824)]) (ht : TabOK Try.prog val sl0 (tabW 30 true true false)) : Q val := leaf h ht (by kernel_rfl) (by kernel_rfl) (by kernel_rfl)
theorem d30_0111 {val : Nat → Int} (h : Holds val [.le (.wrap .i64 (.add (.c (.ofNat 30)) (.a 5))) 64, .is (.a 1) (.ofNat 30), .ge (.a 5) 0, .le (.a 5) 63, .at (.eq (.a 3) (.a 4)) false, .at (.eq (.a 3) (.a 0)) true, .ge (.a 4) 0, .is (.wrap .i64 (.sub (.a 4) (.a 3))) (.ofNat 1073741824)]) (ht : TabOK Try.prog val sl0 (tabW 30 true true true)) : Q val := leaf h ht (by kernel_rfl) (by kernel_rfl) (by kernel_rfl)
theorem d30_1000 {val : Nat → Int} (h : Holds val [.ge (.wrap .i64 (.add (.c (.ofNat 30)) (.a 5))) 65, .is (.a 1) (.ofNat 30), .ge (.a 5) 0, .le (.a 5) 63, .at (.eq (.a 3) (.a 4)) true, .at (.eq (.a 3) (.a 0)) false, .at (.eq (.a 4) (.a 0)) false, .ge (.a 4) 0]) (ht : TabOK Try.prog val sl0 (tabW 30 false false false)) : Q val := leaf h ht (by kernel_rfl) (by kernel_rfl) (by kernel_rfl)
theorem d30_1001 {val : Nat → Int} (h : Holds val [.le (.wrap .i64 (.add (.c (.ofNat 30)) (.a 5))) 64, .is (.a 1) (.ofNat 30), .ge (.a 5) 0, .le (.a 5) 63, .at (.eq (.a 3) (.a 4)) true, .at (.eq (.a 3) (.a 0)) false, .at (.eq (.a 4) (.a 0)) false, .ge (.a 4) 0]) (ht : TabOK Try.prog val sl0 (tabW 30 false false true)) : Q val := leaf h ht (by kernel_rfl) (by kernel_rfl) (by kernel_rfl)
theorem d30_1110 {val : Nat → Int} (h : Holds val [.ge (.wrap .i64 (.add (.c (.ofNat 30)) (.a 5))) 65, .is (.a 1) (.ofNat 30), .ge (.a 5) 0, .le (.a 5) 63, .at (.eq (.a 3) (.a 4)) true, .at (.eq (.a 3) (.a 0)) true, .ge (.a 4) 0]) (ht : TabOK Try.prog val sl0 (tabW 30 true true false)) : Q val := leaf h ht (by kernel_rfl) (by kernel_rfl) (by kernel_rfl)
theorem d30_1111 {val : Nat → Int} (h : Holds val [.le (.wrap .i64 (.add (.c (.ofNat 30)) (.a 5))) 64, .is (.a 1) (.ofNat 30), .ge (.a 5) 0, .le (.a 5) 63, .at (.eq (.a 3) (.a 4)) true, .at (.eq (.a 3) (.a 0)) true, .ge (.a 4) 0]) (ht : TabOK Try.prog val sl0 (tabW 30 true true true)) : Q val := leaf h ht (by kernel_rfl) (by kernel_rfl) (by kernel_rfl)

theorem d30 : D 30 := by
  intro val e fb wb w h ht h1 h2 h3
  cases e <;> cases fb <;> cases wb <;> cases w
  · exact d30_0000 h ht
  · exact d30_0001 h ht
  · exact d30_0010 h ht
  · exact d30_0011 h ht
  · simp at h1 h2 h3
  · simp at h1 h2 h3
  · exact d30_0110 h ht
  · exact d30_0111 h ht
  · exact d30_1000 h ht
  · exact d30_1001 h ht
  · simp at h1 h2 h3
  · simp at h1 h2 h3
  · simp at h1 h2 h3
  · simp at h1 h2 h3
  · exact d30_1110 h ht
  · exact d30_1111 h ht

theorem d31_0000 {val : Nat → Int} (h : Holds val [.ge (.wrap .i64 (.add (.c (.ofNat 31)) (.a 5))) 65, .is (.a 1) (.ofNat 31), .ge (.a 5) 0, .le (.a 5) 63, .at (.eq (.a 3) (.a 4)) false, .at (.eq (.a 3) (.a 0)) false, .at (.eq (.a 4) (.a 0)) false, .ge (.a 4) 0, .is (.wrap .i64 (.sub (.a 4) (.a 3))) (.ofNat 2147483648)]) (ht : TabOK Try.prog val sl0 (tabW 31 false false false)) : Q val := leaf h ht (by kernel_rfl) (by kernel_rfl) (by kernel_rfl)
theorem d31_0001 {val : Nat → Int} (h : Holds val [.le (.wrap .i64 (.add (.c (.ofNat 31)) (.a 5))) 64, .is (.a 1) (.ofNat 31), .ge (.a 5) 0, .le (.a 5) 63, .at (.eq (.a 3) (.a 4)) false, .at (.eq (.a 3) (.a 0)) false, .at (.eq (.a 4) (.a 0)) false, .ge (.a 4) 0, .is (.wrap .i64 (.sub (.a 4) (.a 3))) (.ofNat 2147483648)]) (ht : TabOK Try.prog val sl0 (tabW 31 false false true)) : Q val := leaf h ht (by kernel_rfl) (by kernel_rfl) (by kernel_rfl)
theorem d31_0010 {val : Nat → Int} (h : Holds val [.ge (.wrap .i64 (.add (.c (.ofNat 31)) (.a 5))) 65, .is (.a 1) (.ofNat 31), .ge (.a 5) 0, .le (.a 5) 63, .at (.eq (.a 3) (.a 4)) false, .at (.eq (.a 3) (.a 0)) false, .at (.eq (.a 4) (.a 0)) true, .ge (.a 4) 0, .is (.wrap .i64 (.sub (.a 4) (.a 3))) (.ofNat 2147483648)]) (ht : TabOK Try.prog val sl0 (tabW 31 false true false)) : Q val := leaf h ht (by kernel_rfl) (by kernel_rfl) (by kernel_rfl)
theorem d31_0011 {val : Nat → Int} (h : Holds val [.le (.wrap .i64 (.add (.c (.ofNat 31)) (.a 5))) 64, .is (.a 1) (.ofNat 31), .ge (.a 5) 0, .le (.a 5) 63, .at (.eq (.a 3) (.a 4)) false, .at (.eq (.a 3) (.a 0)) false, .at (.eq (.a 4) (.a 0)) true, .ge (.a 4) 0, .is (.wrap .i64 (.sub (.a 4) (.a 3))) (.ofNat 2147483648)]) (ht : TabOK Try.prog val sl0 (tabW 31 false true true)) : Q val := leaf h ht (by kernel_rfl) (by kernel_rfl) (by kernel_rfl)
theorem d31_0110 {val : Nat → Int} (h : Holds val [.ge (.wrap .i64 (.add (.c (.ofNat 31)) (.a 5))) 65, .is (.a 1) (.ofNat 31), .ge (.a 5) 0, .le (.a 5) 63, .at (.eq (.a 3) (.a 4)) false, .at (.eq (.a 3) (.a 0)) true, .ge (.a 4) 0, .is (.wrap .i64 (.sub (.a 4) (.a 3))) (.ofNat 2147483648)]) (ht : TabOK Try.prog val sl0 (tabW 31 true true false)) : Q val := leaf h ht (by kernel_rfl) (by kernel_rfl) (by kernel_rfl)
theorem d31_0111 {val : Nat → Int} (h : Holds val [.le (.wrap .i64 (.add (.c (.ofNat 31)) (.a 5))) 64, .is (.a 1) (.ofNat 31), .ge (.a 5) 0, .le (.a 5) 63, .at (.eq (.a 3) (.a 4)) false, .at (.eq (.a 3) (.a 0)) true, .ge (.a 4) 0, .is (.wrap .i64 (.sub (.a 4) (.a 3))) (.ofNat 2147483648)]) (ht : TabOK Try.prog val sl0 (tabW 31 true true true)) : Q val := leaf h ht (by kernel_rfl) (by kernel_rfl) (by kernel_rfl)
theorem d31_1000 {val : Nat → Int} (h : Holds val [.ge (.wrap .i64 (.add (.c (.ofNat 31)) (.a 5))) 65, .is (.a 1) (.ofNat 31), .ge (.a 5) 0, .le (.a 5) 63, .at (.eq (.a 3) (.a 4)) true, .at (.eq (.a 3) (.a 0)) false, .at (.eq (.a 4) (.a 0)) false, .ge (.a 4) 0]) (ht : TabOK Try.prog val sl0 (tabW 31 false false false)) : Q val := leaf h ht (by kernel_rfl) (by kernel_rfl) (by kernel_rfl)
theorem d31_1001 {val : Nat → Int} (h : Holds val [.le (.wrap .i64 (.add (.c (.ofNat 31)) (.a 5))) 64, .is (.a 1) (.ofNat 31), .ge (.a 5) 0, .le (.a 5) 63, .at (.eq (.a 3) (.a 4)) true, .at (.eq (.a 3) (.a 0)) false, .at (.eq (.a 4) (.a 0)) false, .ge (.a 4) 0]) (ht : TabOK Try.prog val sl0 (tabW 31 false false true)) : Q val := leaf h ht (by kernel_rfl) (by kernel_rfl) (by kernel_rfl)
theorem d31_1110 {val : Nat → Int} (h : Holds val [.ge (.wrap .i64 (.add (.c (.ofNat 31)) (.a 5))) 65, .is (.a 1) (.ofNat 31), .ge (.a 5) 0, .le (.a 5) 63, .at (.eq (.a 3) (.a 4)) true, .at (.eq (.a 3) (.a 0)) true, .ge (.a 4) 0]) (ht : TabOK Try.prog val sl0 (tabW 31 true true false)) : Q val := leaf h ht (by kernel_rfl) (by kernel_rfl) (by kernel_rfl)
theorem d31_1111 {val : Nat → Int} (h : Holds val [.le (.wrap .i64 (.add (.c (.ofNat 31)) (.a 5))) 64, .is (.a 1) (.ofNat 31), .ge (.a 5) 0, .le (.a 5) 63, .at (.eq (.a 3) (.a 4)) true, .at (.eq (.a 3) (.a 0)) true, .ge (.a 4) 0]) (ht : TabOK Try.prog val sl0 (tabW 31 true true true)) : Q val := leaf h ht (by kernel_rfl) (by kernel_rfl) (by kernel_rfl)

theorem d31 : D 31 := by
  intro val e fb wb w h ht h1 h2 h3
  cases e <;> cases fb <;> cases wb <;> cases w
  · exact d31_0000 h ht
  · exact d31_0001 h ht
  · exact d31_0010 h ht
  · exact d31_0011 h ht
  · simp at h1 h2 h3
  · simp at h1 h2 h3
  · exact d31_0110 h ht
  · exact d31_0111 h ht
  · exact d31_1000 h ht
  · exact d31_1001 h ht
  · simp at h1 h2 h3
  · simp at h1 h2 h3
  · simp at h1 h2 h3
  · simp at h1 h2 h3
  · exact d31_1110 h ht
  · exact d31_1111 h ht

theorem d32_0000 {val : Nat → Int} (h : Holds val [.ge (.wrap .i64 (.add (.c (.ofNat 32)) (.a 5))) 65, .is (.a 1) (.ofNat 32), .ge (.a 5) 0, .le (.a 5) 63, .at (.eq (.a 3) (.a 4)) false, .at (.eq (.a 3) (.a 0)) false, .at (.eq (.a 4) (.a 0)) false, .ge (.a 4) 0, .is (.wrap .i64 (.sub (.a 4) (.a 3))) (.ofNat 4294967296)]) (ht : TabOK Try.prog val sl0 (tabW 32 false false false)) : Q val := leaf h ht (by kernel_rfl) (by kernel_rfl) (by kernel_rfl)
theorem d32_0001 {val : Nat → Int} (h : Holds val [.le (.wrap .i64 (.add (.c (.ofNat 32)) (.a 5))) 64, .is (.a 1) (.ofNat 32), .ge (.a 5) 0, .le (.a 5) 63, .at (.eq (.a 3) (.a 4)) false, .at (.eq (.a 3) (.a 0)) false, .at (.eq (.a 4) (.a 0)) false, .ge (.a 4) 0, .is (.wrap .i64 (.sub (.a 4) (.a 3))) (.ofNat 4294967296)]) (ht : TabOK Try.prog val sl0 (tabW 32 false false true)) : Q val := leaf h ht (by kernel_rfl) (by kernel_rfl) (by kernel_rfl)
theorem d32_0010 {val : Nat → Int} (h : Holds val [.ge (.wrap .i64 (.add (.c (.ofNat 32)) (.a 5))) 65, .is (.a 1) (.ofNat 32), .ge (.a 5) 0, .le (.a 5) 63, .at (.eq (.a 3) (.a 4)) false, .at (.eq (.a 3) (.a 0)) false, .at (.eq (.a 4) (.a 0)) true, .ge (.a 4) 0, .is (.wrap .i64 (.sub (.a 4) (.a 3))) (.ofNat 4294967296)]) (ht : TabOK Try.prog val sl0 (tabW 32 false true false)) : Q val := leaf h ht (by kernel_rfl) (by kernel_rfl) (by kernel_rfl)
theorem d32_0011 {val : Nat → Int} (h : Holds val [.le (.wrap .i64 (.add (.c (.ofNat 32)) (.a 5))) 64, .is (.a 1) (.ofNat 32), .ge (.a 5) 0, .le (.a 5) 63, .at (.eq (.a 3) (.a 4)) false, .at (.eq (.a 3) (.a 0)) false, .at (.eq (.a 4) (.a 0)) true, .ge (.a 4) 0, .is (.wrap .i64 (.sub (.a 4) (.a 3))) (.ofNat 4294967296)]) (ht : TabOK Try.prog val sl0 (tabW 32 false true true)) : Q val := leaf h ht (by kernel_rfl) (by kernel_rfl) (by kernel_rfl)
theorem d32_0110 {val : Nat → Int} (h : Holds val [.ge (.wrap .i64 (.add (.c (.ofNat 32)) (.a 5))) 65, .is (.a 1) (.ofNat 32), .ge (.a 5) 0, .le (.a 5) 63, .at (.eq (.a 3) (.a 4)) false, .at (.eq (.a 3) (.a 0)) true, .ge (.a 4) 0, .is (.wrap .i64 (.sub (.a 4) (.a 3))) (.ofNat 4294967296)]) (ht : TabOK Try.prog val sl0 (tabW 32 true true false)) : Q val := leaf h ht (by kernel_rfl) (by kernel_rfl) (by kernel_rfl)
theorem d32_0111 {val : Nat → Int} (h : Holds val [.le (.wrap .i64 (.add (.c (.ofNat 32)) (.a 5))) 64, .is (.a 1) (.ofNat 32), .ge (.a 5) 0, .le (.a 5) 63, .at (.eq (.a 3) (.a 4)) false, .at (.eq (.a 3) (.a 0)) true, .ge (.a 4) 0, .is (.wrap .i64 (.sub (.a 4) (.a 3))) (.ofNat 4294967296)]) (ht : TabOK Try.prog val sl0 (tabW 32 true true true)) : Q val := leaf h ht (by kernel_rfl) (by kernel_rfl) (by kernel_rfl)
theorem d32_1000 {val : Nat → Int} (h : Holds val [.ge (.wrap .i64 (.add (.c (.ofNat 32)) (.a 5))) 65, .is (.a 1) (.ofNat 32), .ge (.a 5) 0, .le (.a 5) 63, .at (.eq (.a 3) (.a 4)) true, .at (.eq (.a 3) (.a 0)) false, .at (.eq (.a 4) (.a 0)) false, .ge (.a 4) 0]) (ht : TabOK Try.prog val sl0 (tabW 32 false false false)) : Q val := leaf h ht (by kernel_rfl) (by kernel_rfl) (by kernel_rfl)
theorem d32_1001 {val : Nat → Int} (h : Holds val [.le (.wrap .i64 (.add (.c (.ofNat 32)) (.a 5))) 64, .is (.a 1) (.ofNat 32), .ge (.a 5) 0, .le (.a 5) 63, .at (.eq (.a 3) (.a 4)) true, .at (.eq (.a 3) (.a 0)) false, .at (.eq (.a 4) (.a 0)) false, .ge (.a 4) 0]) (ht : TabOK Try.prog val sl0 (tabW 32 false false true)) : Q val := leaf h ht (by kernel_rfl) (by kernel_rfl) (by kernel_rfl)
theorem d32_1110 {val : Nat → Int} (h : Holds val [.ge (.wrap .i64 (.add (.c (.ofNat 32)) (.a 5))) 65, .is (.a 1) (.ofNat 32), .ge (.a 5) 0, .le (.a 5) 63, .at (.eq (.a 3) (.a 4)) true, .at (.eq (.a 3) (.a 0)) true, .ge (.a 4) 0]) (ht : TabOK Try.prog val sl0 (tabW 32 true true false)) : Q val := leaf h ht (by kernel_rfl) (by kernel_rfl) (by kernel_rfl)
theorem d32_1111 {val : Nat → Int} (h : Holds val [.le (.wrap .i64 (.add (.c (.ofNat 32)) (.a 5))) 64, .is (.a 1) (.ofNat 32), .ge (.a 5) 0, .le (.a 5) 63, .at (.eq (.a 3) (.a 4)) true, .at (.eq (.a 3) (.a 0)) true, .ge (.a 4) 0]) (ht : TabOK Try.prog val sl0 (tabW 32 true true true)) : Q val := leaf h ht (by kernel_rfl) (by kernel_rfl) (by kernel_rfl)

theorem d32 : D 32 := by
  intro val e fb wb w h ht h1 h2 h3
  cases e <;> cases fb <;> cases wb <;> cases w
  · exact d32_0000 h ht
  · exact d32_0001 h ht
  · exact d32_0010 h ht
  · exact d32_0011 h ht
  · simp at h1 h2 h3
  · simp at h1 h2 h3
  · exact d32_0110 h ht
  · exact d32_0111 h ht
  · exact d32_1000 h ht
  · exact d32_1001 h ht
  · simp at h1 h2 h3
  · simp at h1 h2 h3
  · simp at h1 h2 h3
  · simp at h1 h2 h3
  · exact d32_1110 h ht
  · exact d32_1111 h ht

end Go.Proofs.Ytclgmeoofmidfaa.FitsL
