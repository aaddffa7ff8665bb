/-
  Ways through the code, part 0.
-/
import Derived.Test.YtclhjdddakmafaaCanonQH
namespace Go.Proofs.Ytclhjdddakmafaa.Tab
open Go.Sim
set_option maxRecDepth 100000

theorem canonQ0 (val : Nat → Int) (h : Holds val [.le (.a 2) 7, .ge (.a 2) 4, .is (.a 1) 2, .is (.a 0) 1]) : CanonQ val :=
  canonLeaf h (by kernel_rfl)

theorem canonQ1 (val : Nat → Int) (h : Holds val [.ge (.a 2) 8, .ge (.a 2) 4, .is (.a 1) 2, .is (.a 0) 1]) : CanonQ val :=
  canonLeaf h (by kernel_rfl)

theorem canonQ2 (val : Nat → Int) (h : Holds val [.le (.a 2) 3, .is (.a 1) 2, .is (.a 0) 1]) : CanonQ val :=
  canonLeaf h (by kernel_rfl)

theorem canonQ3 (val : Nat → Int) (h : Holds val [.le (.a 2) 0, .ge (.a 2) 0, .is (.a 1) 8, .ne (.a 1) 2, .is (.a 0) 1]) : CanonQ val :=
  canonLeaf h (by kernel_rfl)

theorem canonQ4 (val : Nat → Int) (h : Holds val [.ge (.a 2) 1, .ge (.a 2) 0, .is (.a 1) 8, .ne (.a 1) 2, .is (.a 0) 1]) : CanonQ val :=
  canonLeaf h (by kernel_rfl)

theorem canonQ5 (val : Nat → Int) (h : Holds val [.le (.a 2) (-1), .is (.a 1) 8, .ne (.a 1) 2, .is (.a 0) 1]) : CanonQ val :=
  canonLeaf h (by kernel_rfl)

theorem canonQ6 (val : Nat → Int) (h : Holds val [.le (.a 2) 15, .ge (.a 2) 0, .is (.a 1) 1, .ne (.a 1) 8, .ne (.a 1) 2, .is (.a 0) 1]) : CanonQ val :=
  canonLeaf h (by kernel_rfl)

theorem canonQ7 (val : Nat → Int) (h : Holds val [.ge (.a 2) 16, .ge (.a 2) 0, .is (.a 1) 1, .ne (.a 1) 8, .ne (.a 1) 2, .is (.a 0) 1]) : CanonQ val :=
  canonLeaf h (by kernel_rfl)

theorem canonQ8 (val : Nat → Int) (h : Holds val [.le (.a 2) (-1), .is (.a 1) 1, .ne (.a 1) 8, .ne (.a 1) 2, .is (.a 0) 1]) : CanonQ val :=
  canonLeaf h (by kernel_rfl)

theorem canonQ9 (val : Nat → Int) (h : Holds val [.le (.a 2) 15, .ge (.a 2) 0, .is (.a 1) 3, .ne (.a 1) 1, .ne (.a 1) 8, .ne (.a 1) 2, .is (.a 0) 1]) : CanonQ val :=
  canonLeaf h (by kernel_rfl)

theorem canonQ10 (val : Nat → Int) (h : Holds val [.ge (.a 2) 16, .ge (.a 2) 0, .is (.a 1) 3, .ne (.a 1) 1, .ne (.a 1) 8, .ne (.a 1) 2, .is (.a 0) 1]) : CanonQ val :=
  canonLeaf h (by kernel_rfl)

theorem canonQ11 (val : Nat → Int) (h : Holds val [.le (.a 2) (-1), .is (.a 1) 3, .ne (.a 1) 1, .ne (.a 1) 8, .ne (.a 1) 2, .is (.a 0) 1]) : CanonQ val :=
  canonLeaf h (by kernel_rfl)

theorem canonQ12 (val : Nat → Int) (h : Holds val [.le (.a 2) 15, .ge (.a 2) 0, .is (.a 1) 4, .ne (.a 1) 3, .ne (.a 1) 1, .ne (.a 1) 8, .ne (.a 1) 2, .is (.a 0) 1]) : CanonQ val :=
  canonLeaf h (by kernel_rfl)

theorem canonQ13 (val : Nat → Int) (h : Holds val [.ge (.a 2) 16, .ge (.a 2) 0, .is (.a 1) 4, .ne (.a 1) 3, .ne (.a 1) 1, .ne (.a 1) 8, .ne (.a 1) 2, .is (.a 0) 1]) : CanonQ val :=
  canonLeaf h (by kernel_rfl)

theorem canonQ14 (val : Nat → Int) (h : Holds val [.le (.a 2) (-1), .is (.a 1) 4, .ne (.a 1) 3, .ne (.a 1) 1, .ne (.a 1) 8, .ne (.a 1) 2, .is (.a 0) 1]) : CanonQ val :=
  canonLeaf h (by kernel_rfl)

theorem canonQ15 (val : Nat → Int) (h : Holds val [.le (.a 2) 15, .ge (.a 2) 0, .is (.a 1) 5, .ne (.a 1) 4, .ne (.a 1) 3, .ne (.a 1) 1, .ne (.a 1) 8, .ne (.a 1) 2, .is (.a 0) 1]) : CanonQ val :=
  canonLeaf h (by kernel_rfl)

theorem canonQ16 (val : Nat → Int) (h : Holds val [.ge (.a 2) 16, .ge (.a 2) 0, .is (.a 1) 5, .ne (.a 1) 4, .ne (.a 1) 3, .ne (.a 1) 1, .ne (.a 1) 8, .ne (.a 1) 2, .is (.a 0) 1]) : CanonQ val :=
  canonLeaf h (by kernel_rfl)

theorem canonQ17 (val : Nat → Int) (h : Holds val [.le (.a 2) (-1), .is (.a 1) 5, .ne (.a 1) 4, .ne (.a 1) 3, .ne (.a 1) 1, .ne (.a 1) 8, .ne (.a 1) 2, .is (.a 0) 1]) : CanonQ val :=
  canonLeaf h (by kernel_rfl)

theorem canonQ18 (val : Nat → Int) (h : Holds val [.le (.a 2) 15, .ge (.a 2) 0, .is (.a 1) 6, .ne (.a 1) 5, .ne (.a 1) 4, .ne (.a 1) 3, .ne (.a 1) 1, .ne (.a 1) 8, .ne (.a 1) 2, .is (.a 0) 1]) : CanonQ val :=
  canonLeaf h (by kernel_rfl)

theorem canonQ19 (val : Nat → Int) (h : Holds val [.ge (.a 2) 16, .ge (.a 2) 0, .is (.a 1) 6, .ne (.a 1) 5, .ne (.a 1) 4, .ne (.a 1) 3, .ne (.a 1) 1, .ne (.a 1) 8, .ne (.a 1) 2, .is (.a 0) 1]) : CanonQ val :=
  canonLeaf h (by kernel_rfl)

theorem canonQ20 (val : Nat → Int) (h : Holds val [.le (.a 2) (-1), .is (.a 1) 6, .ne (.a 1) 5, .ne (.a 1) 4, .ne (.a 1) 3, .ne (.a 1) 1, .ne (.a 1) 8, .ne (.a 1) 2, .is (.a 0) 1]) : CanonQ val :=
  canonLeaf h (by kernel_rfl)

theorem canonQ21 (val : Nat → Int) (h : Holds val [.le (.a 2) 15, .ge (.a 2) 0, .is (.a 1) 7, .ne (.a 1) 6, .ne (.a 1) 5, .ne (.a 1) 4, .ne (.a 1) 3, .ne (.a 1) 1, .ne (.a 1) 8, .ne (.a 1) 2, .is (.a 0) 1]) : CanonQ val :=
  canonLeaf h (by kernel_rfl)

theorem canonQ22 (val : Nat → Int) (h : Holds val [.ge (.a 2) 16, .ge (.a 2) 0, .is (.a 1) 7, .ne (.a 1) 6, .ne (.a 1) 5, .ne (.a 1) 4, .ne (.a 1) 3, .ne (.a 1) 1, .ne (.a 1) 8, .ne (.a 1) 2, .is (.a 0) 1]) : CanonQ val :=
  canonLeaf h (by kernel_rfl)

theorem canonQ23 (val : Nat → Int) (h : Holds val [.le (.a 2) (-1), .is (.a 1) 7, .ne (.a 1) 6, .ne (.a 1) 5, .ne (.a 1) 4, .ne (.a 1) 3, .ne (.a 1) 1, .ne (.a 1) 8, .ne (.a 1) 2, .is (.a 0) 1]) : CanonQ val :=
  canonLeaf h (by kernel_rfl)

theorem canonQ24 (val : Nat → Int) (h : Holds val [.ge (.a 2) 0, .ne (.a 1) 7, .ne (.a 1) 6, .ne (.a 1) 5, .ne (.a 1) 4, .ne (.a 1) 3, .ne (.a 1) 1, .ne (.a 1) 8, .ne (.a 1) 2, .is (.a 0) 1]) : CanonQ val :=
  canonLeaf h (by kernel_rfl)

theorem canonQ25 (val : Nat → Int) (h : Holds val [.le (.a 2) (-1), .ne (.a 1) 7, .ne (.a 1) 6, .ne (.a 1) 5, .ne (.a 1) 4, .ne (.a 1) 3, .ne (.a 1) 1, .ne (.a 1) 8, .ne (.a 1) 2, .is (.a 0) 1]) : CanonQ val :=
  canonLeaf h (by kernel_rfl)

theorem canonQ26 (val : Nat → Int) (h : Holds val [.le (.a 8) (-2147483649), .is (.a 0) 2, .ne (.a 0) 1]) : CanonQ val :=
  canonLeaf h (by kernel_rfl)

theorem canonQ27 (val : Nat → Int) (h : Holds val [.ge (.a 8) 2147483648, .ge (.a 8) (-2147483648), .is (.a 0) 2, .ne (.a 0) 1]) : CanonQ val :=
  canonLeaf h (by kernel_rfl)

theorem canonQ28 (val : Nat → Int) (h : Holds val [.is (.a 7) 0, .is (.a 6) 0, .is (.a 5) 0, .is (.a 4) 0, .is (.a 3) 0, .is (.a 9) 0, .le (.a 8) 2147483647, .ge (.a 8) (-2147483648), .is (.a 0) 2, .ne (.a 0) 1]) : CanonQ val :=
  canonLeaf h (by kernel_rfl)

theorem canonQ29 (val : Nat → Int) (h : Holds val [.ne (.a 7) 0, .is (.a 6) 0, .is (.a 5) 0, .is (.a 4) 0, .is (.a 3) 0, .is (.a 9) 0, .le (.a 8) 2147483647, .ge (.a 8) (-2147483648), .is (.a 0) 2, .ne (.a 0) 1]) : CanonQ val :=
  canonLeaf h (by kernel_rfl)

theorem canonQ30 (val : Nat → Int) (h : Holds val [.ne (.a 6) 0, .is (.a 5) 0, .is (.a 4) 0, .is (.a 3) 0, .is (.a 9) 0, .le (.a 8) 2147483647, .ge (.a 8) (-2147483648), .is (.a 0) 2, .ne (.a 0) 1]) : CanonQ val :=
  canonLeaf h (by kernel_rfl)

theorem canonQ31 (val : Nat → Int) (h : Holds val [.is (.a 6) 4, .is (.a 7) 1, .le (.a 6) 15, .ge (.a 6) 0, .is (.a 5) 5, .ne (.a 5) 0, .is (.a 4) 0, .is (.a 3) 0, .is (.a 9) 0, .le (.a 8) 2147483647, .ge (.a 8) (-2147483648), .is (.a 0) 2, .ne (.a 0) 1]) : CanonQ val :=
  canonLeaf h (by kernel_rfl)

theorem canonQ32 (val : Nat → Int) (h : Holds val [.ne (.a 6) 4, .is (.a 7) 1, .le (.a 6) 15, .ge (.a 6) 0, .is (.a 5) 5, .ne (.a 5) 0, .is (.a 4) 0, .is (.a 3) 0, .is (.a 9) 0, .le (.a 8) 2147483647, .ge (.a 8) (-2147483648), .is (.a 0) 2, .ne (.a 0) 1]) : CanonQ val :=
  canonLeaf h (by kernel_rfl)

theorem canonQ33 (val : Nat → Int) (h : Holds val [.is (.a 6) 4, .is (.a 7) 2, .ne (.a 7) 1, .le (.a 6) 15, .ge (.a 6) 0, .is (.a 5) 5, .ne (.a 5) 0, .is (.a 4) 0, .is (.a 3) 0, .is (.a 9) 0, .le (.a 8) 2147483647, .ge (.a 8) (-2147483648), .is (.a 0) 2, .ne (.a 0) 1]) : CanonQ val :=
  canonLeaf h (by kernel_rfl)

theorem canonQ34 (val : Nat → Int) (h : Holds val [.ne (.a 6) 4, .is (.a 7) 2, .ne (.a 7) 1, .le (.a 6) 15, .ge (.a 6) 0, .is (.a 5) 5, .ne (.a 5) 0, .is (.a 4) 0, .is (.a 3) 0, .is (.a 9) 0, .le (.a 8) 2147483647, .ge (.a 8) (-2147483648), .is (.a 0) 2, .ne (.a 0) 1]) : CanonQ val :=
  canonLeaf h (by kernel_rfl)

theorem canonQ35 (val : Nat → Int) (h : Holds val [.is (.a 6) 4, .is (.a 7) 4, .ne (.a 7) 2, .ne (.a 7) 1, .le (.a 6) 15, .ge (.a 6) 0, .is (.a 5) 5, .ne (.a 5) 0, .is (.a 4) 0, .is (.a 3) 0, .is (.a 9) 0, .le (.a 8) 2147483647, .ge (.a 8) (-2147483648), .is (.a 0) 2, .ne (.a 0) 1]) : CanonQ val :=
  canonLeaf h (by kernel_rfl)

theorem canonQ36 (val : Nat → Int) (h : Holds val [.ne (.a 6) 4, .is (.a 7) 4, .ne (.a 7) 2, .ne (.a 7) 1, .le (.a 6) 15, .ge (.a 6) 0, .is (.a 5) 5, .ne (.a 5) 0, .is (.a 4) 0, .is (.a 3) 0, .is (.a 9) 0, .le (.a 8) 2147483647, .ge (.a 8) (-2147483648), .is (.a 0) 2, .ne (.a 0) 1]) : CanonQ val :=
  canonLeaf h (by kernel_rfl)

theorem canonQ37 (val : Nat → Int) (h : Holds val [.is (.a 6) 4, .is (.a 7) 8, .ne (.a 7) 4, .ne (.a 7) 2, .ne (.a 7) 1, .le (.a 6) 15, .ge (.a 6) 0, .is (.a 5) 5, .ne (.a 5) 0, .is (.a 4) 0, .is (.a 3) 0, .is (.a 9) 0, .le (.a 8) 2147483647, .ge (.a 8) (-2147483648), .is (.a 0) 2, .ne (.a 0) 1]) : CanonQ val :=
  canonLeaf h (by kernel_rfl)

theorem canonQ38 (val : Nat → Int) (h : Holds val [.ne (.a 6) 4, .is (.a 7) 8, .ne (.a 7) 4, .ne (.a 7) 2, .ne (.a 7) 1, .le (.a 6) 15, .ge (.a 6) 0, .is (.a 5) 5, .ne (.a 5) 0, .is (.a 4) 0, .is (.a 3) 0, .is (.a 9) 0, .le (.a 8) 2147483647, .ge (.a 8) (-2147483648), .is (.a 0) 2, .ne (.a 0) 1]) : CanonQ val :=
  canonLeaf h (by kernel_rfl)

theorem canonQ39 (val : Nat → Int) (h : Holds val [.ne (.a 7) 8, .ne (.a 7) 4, .ne (.a 7) 2, .ne (.a 7) 1, .le (.a 6) 15, .ge (.a 6) 0, .is (.a 5) 5, .ne (.a 5) 0, .is (.a 4) 0, .is (.a 3) 0, .is (.a 9) 0, .le (.a 8) 2147483647, .ge (.a 8) (-2147483648), .is (.a 0) 2, .ne (.a 0) 1]) : CanonQ val :=
  canonLeaf h (by kernel_rfl)

theorem canonQ40 (val : Nat → Int) (h : Holds val [.ge (.a 6) 16, .ge (.a 6) 0, .is (.a 5) 5, .ne (.a 5) 0, .is (.a 4) 0, .is (.a 3) 0, .is (.a 9) 0, .le (.a 8) 2147483647, .ge (.a 8) (-2147483648), .is (.a 0) 2, .ne (.a 0) 1]) : CanonQ val :=
  canonLeaf h (by kernel_rfl)

theorem canonQ41 (val : Nat → Int) (h : Holds val [.le (.a 6) (-1), .is (.a 5) 5, .ne (.a 5) 0, .is (.a 4) 0, .is (.a 3) 0, .is (.a 9) 0, .le (.a 8) 2147483647, .ge (.a 8) (-2147483648), .is (.a 0) 2, .ne (.a 0) 1]) : CanonQ val :=
  canonLeaf h (by kernel_rfl)

theorem canonQ42 (val : Nat → Int) (h : Holds val [.ne (.a 5) 5, .ne (.a 5) 0, .is (.a 4) 0, .is (.a 3) 0, .is (.a 9) 0, .le (.a 8) 2147483647, .ge (.a 8) (-2147483648), .is (.a 0) 2, .ne (.a 0) 1]) : CanonQ val :=
  canonLeaf h (by kernel_rfl)

theorem canonQ43 (val : Nat → Int) (h : Holds val [.ne (.a 4) 0, .is (.a 3) 0, .is (.a 9) 0, .le (.a 8) 2147483647, .ge (.a 8) (-2147483648), .is (.a 0) 2, .ne (.a 0) 1]) : CanonQ val :=
  canonLeaf h (by kernel_rfl)

theorem canonQ44 (val : Nat → Int) (h : Holds val [.is (.a 7) 0, .is (.a 6) 0, .is (.a 5) 0, .is (.a 4) 0, .is (.a 3) 8, .ne (.a 3) 0, .is (.a 9) 0, .le (.a 8) 2147483647, .ge (.a 8) (-2147483648), .is (.a 0) 2, .ne (.a 0) 1]) : CanonQ val :=
  canonLeaf h (by kernel_rfl)

theorem canonQ45 (val : Nat → Int) (h : Holds val [.ne (.a 7) 0, .is (.a 6) 0, .is (.a 5) 0, .is (.a 4) 0, .is (.a 3) 8, .ne (.a 3) 0, .is (.a 9) 0, .le (.a 8) 2147483647, .ge (.a 8) (-2147483648), .is (.a 0) 2, .ne (.a 0) 1]) : CanonQ val :=
  canonLeaf h (by kernel_rfl)

theorem canonQ46 (val : Nat → Int) (h : Holds val [.ne (.a 6) 0, .is (.a 5) 0, .is (.a 4) 0, .is (.a 3) 8, .ne (.a 3) 0, .is (.a 9) 0, .le (.a 8) 2147483647, .ge (.a 8) (-2147483648), .is (.a 0) 2, .ne (.a 0) 1]) : CanonQ val :=
  canonLeaf h (by kernel_rfl)

theorem canonQ47 (val : Nat → Int) (h : Holds val [.is (.a 7) 1, .le (.a 6) 15, .ge (.a 6) 0, .is (.a 5) 5, .ne (.a 5) 0, .is (.a 4) 0, .is (.a 3) 8, .ne (.a 3) 0, .is (.a 9) 0, .le (.a 8) 2147483647, .ge (.a 8) (-2147483648), .is (.a 0) 2, .ne (.a 0) 1]) : CanonQ val :=
  canonLeaf h (by kernel_rfl)

theorem canonQ48 (val : Nat → Int) (h : Holds val [.is (.a 7) 2, .ne (.a 7) 1, .le (.a 6) 15, .ge (.a 6) 0, .is (.a 5) 5, .ne (.a 5) 0, .is (.a 4) 0, .is (.a 3) 8, .ne (.a 3) 0, .is (.a 9) 0, .le (.a 8) 2147483647, .ge (.a 8) (-2147483648), .is (.a 0) 2, .ne (.a 0) 1]) : CanonQ val :=
  canonLeaf h (by kernel_rfl)

theorem canonQ49 (val : Nat → Int) (h : Holds val [.is (.a 7) 4, .ne (.a 7) 2, .ne (.a 7) 1, .le (.a 6) 15, .ge (.a 6) 0, .is (.a 5) 5, .ne (.a 5) 0, .is (.a 4) 0, .is (.a 3) 8, .ne (.a 3) 0, .is (.a 9) 0, .le (.a 8) 2147483647, .ge (.a 8) (-2147483648), .is (.a 0) 2, .ne (.a 0) 1]) : CanonQ val :=
  canonLeaf h (by kernel_rfl)

theorem canonQ50 (val : Nat → Int) (h : Holds val [.is (.a 7) 8, .ne (.a 7) 4, .ne (.a 7) 2, .ne (.a 7) 1, .le (.a 6) 15, .ge (.a 6) 0, .is (.a 5) 5, .ne (.a 5) 0, .is (.a 4) 0, .is (.a 3) 8, .ne (.a 3) 0, .is (.a 9) 0, .le (.a 8) 2147483647, .ge (.a 8) (-2147483648), .is (.a 0) 2, .ne (.a 0) 1]) : CanonQ val :=
  canonLeaf h (by kernel_rfl)

theorem canonQ51 (val : Nat → Int) (h : Holds val [.ne (.a 7) 8, .ne (.a 7) 4, .ne (.a 7) 2, .ne (.a 7) 1, .le (.a 6) 15, .ge (.a 6) 0, .is (.a 5) 5, .ne (.a 5) 0, .is (.a 4) 0, .is (.a 3) 8, .ne (.a 3) 0, .is (.a 9) 0, .le (.a 8) 2147483647, .ge (.a 8) (-2147483648), .is (.a 0) 2, .ne (.a 0) 1]) : CanonQ val :=
  canonLeaf h (by kernel_rfl)

theorem canonQ52 (val : Nat → Int) (h : Holds val [.ge (.a 6) 16, .ge (.a 6) 0, .is (.a 5) 5, .ne (.a 5) 0, .is (.a 4) 0, .is (.a 3) 8, .ne (.a 3) 0, .is (.a 9) 0, .le (.a 8) 2147483647, .ge (.a 8) (-2147483648), .is (.a 0) 2, .ne (.a 0) 1]) : CanonQ val :=
  canonLeaf h (by kernel_rfl)

theorem canonQ53 (val : Nat → Int) (h : Holds val [.le (.a 6) (-1), .is (.a 5) 5, .ne (.a 5) 0, .is (.a 4) 0, .is (.a 3) 8, .ne (.a 3) 0, .is (.a 9) 0, .le (.a 8) 2147483647, .ge (.a 8) (-2147483648), .is (.a 0) 2, .ne (.a 0) 1]) : CanonQ val :=
  canonLeaf h (by kernel_rfl)

theorem canonQ54 (val : Nat → Int) (h : Holds val [.ne (.a 5) 5, .ne (.a 5) 0, .is (.a 4) 0, .is (.a 3) 8, .ne (.a 3) 0, .is (.a 9) 0, .le (.a 8) 2147483647, .ge (.a 8) (-2147483648), .is (.a 0) 2, .ne (.a 0) 1]) : CanonQ val :=
  canonLeaf h (by kernel_rfl)

theorem canonQ55 (val : Nat → Int) (h : Holds val [.ne (.a 4) 0, .is (.a 3) 8, .ne (.a 3) 0, .is (.a 9) 0, .le (.a 8) 2147483647, .ge (.a 8) (-2147483648), .is (.a 0) 2, .ne (.a 0) 1]) : CanonQ val :=
  canonLeaf h (by kernel_rfl)

theorem canonQ56 (val : Nat → Int) (h : Holds val [.is (.a 7) 0, .is (.a 6) 0, .is (.a 5) 0, .le (.a 4) 15, .ge (.a 4) 0, .is (.a 3) 5, .ne (.a 3) 8, .ne (.a 3) 0, .is (.a 9) 0, .le (.a 8) 2147483647, .ge (.a 8) (-2147483648), .is (.a 0) 2, .ne (.a 0) 1]) : CanonQ val :=
  canonLeaf h (by kernel_rfl)

theorem canonQ57 (val : Nat → Int) (h : Holds val [.ne (.a 7) 0, .is (.a 6) 0, .is (.a 5) 0, .le (.a 4) 15, .ge (.a 4) 0, .is (.a 3) 5, .ne (.a 3) 8, .ne (.a 3) 0, .is (.a 9) 0, .le (.a 8) 2147483647, .ge (.a 8) (-2147483648), .is (.a 0) 2, .ne (.a 0) 1]) : CanonQ val :=
  canonLeaf h (by kernel_rfl)

theorem canonQ58 (val : Nat → Int) (h : Holds val [.ne (.a 6) 0, .is (.a 5) 0, .le (.a 4) 15, .ge (.a 4) 0, .is (.a 3) 5, .ne (.a 3) 8, .ne (.a 3) 0, .is (.a 9) 0, .le (.a 8) 2147483647, .ge (.a 8) (-2147483648), .is (.a 0) 2, .ne (.a 0) 1]) : CanonQ val :=
  canonLeaf h (by kernel_rfl)

theorem canonQ59 (val : Nat → Int) (h : Holds val [.is (.a 4) 4, .is (.a 6) 4, .is (.a 7) 1, .le (.a 6) 15, .ge (.a 6) 0, .is (.a 5) 5, .ne (.a 5) 0, .le (.a 4) 15, .ge (.a 4) 0, .is (.a 3) 5, .ne (.a 3) 8, .ne (.a 3) 0, .is (.a 9) 0, .le (.a 8) 2147483647, .ge (.a 8) (-2147483648), .is (.a 0) 2, .ne (.a 0) 1]) : CanonQ val :=
  canonLeaf h (by kernel_rfl)

theorem canonQ60 (val : Nat → Int) (h : Holds val [.ne (.a 4) 4, .is (.a 6) 4, .is (.a 7) 1, .le (.a 6) 15, .ge (.a 6) 0, .is (.a 5) 5, .ne (.a 5) 0, .le (.a 4) 15, .ge (.a 4) 0, .is (.a 3) 5, .ne (.a 3) 8, .ne (.a 3) 0, .is (.a 9) 0, .le (.a 8) 2147483647, .ge (.a 8) (-2147483648), .is (.a 0) 2, .ne (.a 0) 1]) : CanonQ val :=
  canonLeaf h (by kernel_rfl)

theorem canonQ61 (val : Nat → Int) (h : Holds val [.ne (.a 6) 4, .is (.a 7) 1, .le (.a 6) 15, .ge (.a 6) 0, .is (.a 5) 5, .ne (.a 5) 0, .le (.a 4) 15, .ge (.a 4) 0, .is (.a 3) 5, .ne (.a 3) 8, .ne (.a 3) 0, .is (.a 9) 0, .le (.a 8) 2147483647, .ge (.a 8) (-2147483648), .is (.a 0) 2, .ne (.a 0) 1]) : CanonQ val :=
  canonLeaf h (by kernel_rfl)

theorem canonQ62 (val : Nat → Int) (h : Holds val [.is (.a 6) 4, .is (.a 7) 2, .ne (.a 7) 1, .le (.a 6) 15, .ge (.a 6) 0, .is (.a 5) 5, .ne (.a 5) 0, .le (.a 4) 15, .ge (.a 4) 0, .is (.a 3) 5, .ne (.a 3) 8, .ne (.a 3) 0, .is (.a 9) 0, .le (.a 8) 2147483647, .ge (.a 8) (-2147483648), .is (.a 0) 2, .ne (.a 0) 1]) : CanonQ val :=
  canonLeaf h (by kernel_rfl)

theorem canonQ63 (val : Nat → Int) (h : Holds val [.ne (.a 6) 4, .is (.a 7) 2, .ne (.a 7) 1, .le (.a 6) 15, .ge (.a 6) 0, .is (.a 5) 5, .ne (.a 5) 0, .le (.a 4) 15, .ge (.a 4) 0, .is (.a 3) 5, .ne (.a 3) 8, .ne (.a 3) 0, .is (.a 9) 0, .le (.a 8) 2147483647, .ge (.a 8) (-2147483648), .is (.a 0) 2, .ne (.a 0) 1]) : CanonQ val :=
  canonLeaf h (by kernel_rfl)

theorem canonQ64 (val : Nat → Int) (h : Holds val [.is (.a 6) 4, .is (.a 7) 4, .ne (.a 7) 2, .ne (.a 7) 1, .le (.a 6) 15, .ge (.a 6) 0, .is (.a 5) 5, .ne (.a 5) 0, .le (.a 4) 15, .ge (.a 4) 0, .is (.a 3) 5, .ne (.a 3) 8, .ne (.a 3) 0, .is (.a 9) 0, .le (.a 8) 2147483647, .ge (.a 8) (-2147483648), .is (.a 0) 2, .ne (.a 0) 1]) : CanonQ val :=
  canonLeaf h (by kernel_rfl)

theorem canonQ65 (val : Nat → Int) (h : Holds val [.ne (.a 6) 4, .is (.a 7) 4, .ne (.a 7) 2, .ne (.a 7) 1, .le (.a 6) 15, .ge (.a 6) 0, .is (.a 5) 5, .ne (.a 5) 0, .le (.a 4) 15, .ge (.a 4) 0, .is (.a 3) 5, .ne (.a 3) 8, .ne (.a 3) 0, .is (.a 9) 0, .le (.a 8) 2147483647, .ge (.a 8) (-2147483648), .is (.a 0) 2, .ne (.a 0) 1]) : CanonQ val :=
  canonLeaf h (by kernel_rfl)

theorem canonQ66 (val : Nat → Int) (h : Holds val [.is (.a 6) 4, .is (.a 7) 8, .ne (.a 7) 4, .ne (.a 7) 2, .ne (.a 7) 1, .le (.a 6) 15, .ge (.a 6) 0, .is (.a 5) 5, .ne (.a 5) 0, .le (.a 4) 15, .ge (.a 4) 0, .is (.a 3) 5, .ne (.a 3) 8, .ne (.a 3) 0, .is (.a 9) 0, .le (.a 8) 2147483647, .ge (.a 8) (-2147483648), .is (.a 0) 2, .ne (.a 0) 1]) : CanonQ val :=
  canonLeaf h (by kernel_rfl)

theorem canonQ67 (val : Nat → Int) (h : Holds val [.ne (.a 6) 4, .is (.a 7) 8, .ne (.a 7) 4, .ne (.a 7) 2, .ne (.a 7) 1, .le (.a 6) 15, .ge (.a 6) 0, .is (.a 5) 5, .ne (.a 5) 0, .le (.a 4) 15, .ge (.a 4) 0, .is (.a 3) 5, .ne (.a 3) 8, .ne (.a 3) 0, .is (.a 9) 0, .le (.a 8) 2147483647, .ge (.a 8) (-2147483648), .is (.a 0) 2, .ne (.a 0) 1]) : CanonQ val :=
  canonLeaf h (by kernel_rfl)

theorem canonQ68 (val : Nat → Int) (h : Holds val [.ne (.a 7) 8, .ne (.a 7) 4, .ne (.a 7) 2, .ne (.a 7) 1, .le (.a 6) 15, .ge (.a 6) 0, .is (.a 5) 5, .ne (.a 5) 0, .le (.a 4) 15, .ge (.a 4) 0, .is (.a 3) 5, .ne (.a 3) 8, .ne (.a 3) 0, .is (.a 9) 0, .le (.a 8) 2147483647, .ge (.a 8) (-2147483648), .is (.a 0) 2, .ne (.a 0) 1]) : CanonQ val :=
  canonLeaf h (by kernel_rfl)

theorem canonQ69 (val : Nat → Int) (h : Holds val [.ge (.a 6) 16, .ge (.a 6) 0, .is (.a 5) 5, .ne (.a 5) 0, .le (.a 4) 15, .ge (.a 4) 0, .is (.a 3) 5, .ne (.a 3) 8, .ne (.a 3) 0, .is (.a 9) 0, .le (.a 8) 2147483647, .ge (.a 8) (-2147483648), .is (.a 0) 2, .ne (.a 0) 1]) : CanonQ val :=
  canonLeaf h (by kernel_rfl)

theorem canonQ70 (val : Nat → Int) (h : Holds val [.le (.a 6) (-1), .is (.a 5) 5, .ne (.a 5) 0, .le (.a 4) 15, .ge (.a 4) 0, .is (.a 3) 5, .ne (.a 3) 8, .ne (.a 3) 0, .is (.a 9) 0, .le (.a 8) 2147483647, .ge (.a 8) (-2147483648), .is (.a 0) 2, .ne (.a 0) 1]) : CanonQ val :=
  canonLeaf h (by kernel_rfl)

theorem canonQ71 (val : Nat → Int) (h : Holds val [.ne (.a 5) 5, .ne (.a 5) 0, .le (.a 4) 15, .ge (.a 4) 0, .is (.a 3) 5, .ne (.a 3) 8, .ne (.a 3) 0, .is (.a 9) 0, .le (.a 8) 2147483647, .ge (.a 8) (-2147483648), .is (.a 0) 2, .ne (.a 0) 1]) : CanonQ val :=
  canonLeaf h (by kernel_rfl)

theorem canonQ72 (val : Nat → Int) (h : Holds val [.ge (.a 4) 16, .ge (.a 4) 0, .is (.a 3) 5, .ne (.a 3) 8, .ne (.a 3) 0, .is (.a 9) 0, .le (.a 8) 2147483647, .ge (.a 8) (-2147483648), .is (.a 0) 2, .ne (.a 0) 1]) : CanonQ val :=
  canonLeaf h (by kernel_rfl)

theorem canonQ73 (val : Nat → Int) (h : Holds val [.le (.a 4) (-1), .is (.a 3) 5, .ne (.a 3) 8, .ne (.a 3) 0, .is (.a 9) 0, .le (.a 8) 2147483647, .ge (.a 8) (-2147483648), .is (.a 0) 2, .ne (.a 0) 1]) : CanonQ val :=
  canonLeaf h (by kernel_rfl)

theorem canonQ74 (val : Nat → Int) (h : Holds val [.ne (.a 3) 5, .ne (.a 3) 8, .ne (.a 3) 0, .is (.a 9) 0, .le (.a 8) 2147483647, .ge (.a 8) (-2147483648), .is (.a 0) 2, .ne (.a 0) 1]) : CanonQ val :=
  canonLeaf h (by kernel_rfl)

theorem canonQ75 (val : Nat → Int) (h : Holds val [.is (.a 7) 0, .is (.a 6) 0, .is (.a 5) 0, .is (.a 4) 0, .is (.a 3) 0, .is (.a 9) 1, .ne (.a 9) 0, .le (.a 8) 2147483647, .ge (.a 8) (-2147483648), .is (.a 0) 2, .ne (.a 0) 1]) : CanonQ val :=
  canonLeaf h (by kernel_rfl)

theorem canonQ76 (val : Nat → Int) (h : Holds val [.ne (.a 7) 0, .is (.a 6) 0, .is (.a 5) 0, .is (.a 4) 0, .is (.a 3) 0, .is (.a 9) 1, .ne (.a 9) 0, .le (.a 8) 2147483647, .ge (.a 8) (-2147483648), .is (.a 0) 2, .ne (.a 0) 1]) : CanonQ val :=
  canonLeaf h (by kernel_rfl)

theorem canonQ77 (val : Nat → Int) (h : Holds val [.ne (.a 6) 0, .is (.a 5) 0, .is (.a 4) 0, .is (.a 3) 0, .is (.a 9) 1, .ne (.a 9) 0, .le (.a 8) 2147483647, .ge (.a 8) (-2147483648), .is (.a 0) 2, .ne (.a 0) 1]) : CanonQ val :=
  canonLeaf h (by kernel_rfl)

theorem canonQ78 (val : Nat → Int) (h : Holds val [.is (.a 6) 4, .is (.a 7) 1, .le (.a 6) 15, .ge (.a 6) 0, .is (.a 5) 5, .ne (.a 5) 0, .is (.a 4) 0, .is (.a 3) 0, .is (.a 9) 1, .ne (.a 9) 0, .le (.a 8) 2147483647, .ge (.a 8) (-2147483648), .is (.a 0) 2, .ne (.a 0) 1]) : CanonQ val :=
  canonLeaf h (by kernel_rfl)

theorem canonQ79 (val : Nat → Int) (h : Holds val [.ne (.a 6) 4, .is (.a 7) 1, .le (.a 6) 15, .ge (.a 6) 0, .is (.a 5) 5, .ne (.a 5) 0, .is (.a 4) 0, .is (.a 3) 0, .is (.a 9) 1, .ne (.a 9) 0, .le (.a 8) 2147483647, .ge (.a 8) (-2147483648), .is (.a 0) 2, .ne (.a 0) 1]) : CanonQ val :=
  canonLeaf h (by kernel_rfl)

theorem canonQ80 (val : Nat → Int) (h : Holds val [.is (.a 6) 4, .is (.a 7) 2, .ne (.a 7) 1, .le (.a 6) 15, .ge (.a 6) 0, .is (.a 5) 5, .ne (.a 5) 0, .is (.a 4) 0, .is (.a 3) 0, .is (.a 9) 1, .ne (.a 9) 0, .le (.a 8) 2147483647, .ge (.a 8) (-2147483648), .is (.a 0) 2, .ne (.a 0) 1]) : CanonQ val :=
  canonLeaf h (by kernel_rfl)

theorem canonQ81 (val : Nat → Int) (h : Holds val [.ne (.a 6) 4, .is (.a 7) 2, .ne (.a 7) 1, .le (.a 6) 15, .ge (.a 6) 0, .is (.a 5) 5, .ne (.a 5) 0, .is (.a 4) 0, .is (.a 3) 0, .is (.a 9) 1, .ne (.a 9) 0, .le (.a 8) 2147483647, .ge (.a 8) (-2147483648), .is (.a 0) 2, .ne (.a 0) 1]) : CanonQ val :=
  canonLeaf h (by kernel_rfl)

theorem canonQ82 (val : Nat → Int) (h : Holds val [.is (.a 6) 4, .is (.a 7) 4, .ne (.a 7) 2, .ne (.a 7) 1, .le (.a 6) 15, .ge (.a 6) 0, .is (.a 5) 5, .ne (.a 5) 0, .is (.a 4) 0, .is (.a 3) 0, .is (.a 9) 1, .ne (.a 9) 0, .le (.a 8) 2147483647, .ge (.a 8) (-2147483648), .is (.a 0) 2, .ne (.a 0) 1]) : CanonQ val :=
  canonLeaf h (by kernel_rfl)

theorem canonQ83 (val : Nat → Int) (h : Holds val [.ne (.a 6) 4, .is (.a 7) 4, .ne (.a 7) 2, .ne (.a 7) 1, .le (.a 6) 15, .ge (.a 6) 0, .is (.a 5) 5, .ne (.a 5) 0, .is (.a 4) 0, .is (.a 3) 0, .is (.a 9) 1, .ne (.a 9) 0, .le (.a 8) 2147483647, .ge (.a 8) (-2147483648), .is (.a 0) 2, .ne (.a 0) 1]) : CanonQ val :=
  canonLeaf h (by kernel_rfl)

theorem canonQ84 (val : Nat → Int) (h : Holds val [.is (.a 6) 4, .is (.a 7) 8, .ne (.a 7) 4, .ne (.a 7) 2, .ne (.a 7) 1, .le (.a 6) 15, .ge (.a 6) 0, .is (.a 5) 5, .ne (.a 5) 0, .is (.a 4) 0, .is (.a 3) 0, .is (.a 9) 1, .ne (.a 9) 0, .le (.a 8) 2147483647, .ge (.a 8) (-2147483648), .is (.a 0) 2, .ne (.a 0) 1]) : CanonQ val :=
  canonLeaf h (by kernel_rfl)

theorem canonQ85 (val : Nat → Int) (h : Holds val [.ne (.a 6) 4, .is (.a 7) 8, .ne (.a 7) 4, .ne (.a 7) 2, .ne (.a 7) 1, .le (.a 6) 15, .ge (.a 6) 0, .is (.a 5) 5, .ne (.a 5) 0, .is (.a 4) 0, .is (.a 3) 0, .is (.a 9) 1, .ne (.a 9) 0, .le (.a 8) 2147483647, .ge (.a 8) (-2147483648), .is (.a 0) 2, .ne (.a 0) 1]) : CanonQ val :=
  canonLeaf h (by kernel_rfl)

theorem canonQ86 (val : Nat → Int) (h : Holds val [.ne (.a 7) 8, .ne (.a 7) 4, .ne (.a 7) 2, .ne (.a 7) 1, .le (.a 6) 15, .ge (.a 6) 0, .is (.a 5) 5, .ne (.a 5) 0, .is (.a 4) 0, .is (.a 3) 0, .is (.a 9) 1, .ne (.a 9) 0, .le (.a 8) 2147483647, .ge (.a 8) (-2147483648), .is (.a 0) 2, .ne (.a 0) 1]) : CanonQ val :=
  canonLeaf h (by kernel_rfl)

theorem canonQ87 (val : Nat → Int) (h : Holds val [.ge (.a 6) 16, .ge (.a 6) 0, .is (.a 5) 5, .ne (.a 5) 0, .is (.a 4) 0, .is (.a 3) 0, .is (.a 9) 1, .ne (.a 9) 0, .le (.a 8) 2147483647, .ge (.a 8) (-2147483648), .is (.a 0) 2, .ne (.a 0) 1]) : CanonQ val :=
  canonLeaf h (by kernel_rfl)

theorem canonQ88 (val : Nat → Int) (h : Holds val [.le (.a 6) (-1), .is (.a 5) 5, .ne (.a 5) 0, .is (.a 4) 0, .is (.a 3) 0, .is (.a 9) 1, .ne (.a 9) 0, .le (.a 8) 2147483647, .ge (.a 8) (-2147483648), .is (.a 0) 2, .ne (.a 0) 1]) : CanonQ val :=
  canonLeaf h (by kernel_rfl)

theorem canonQ89 (val : Nat → Int) (h : Holds val [.ne (.a 5) 5, .ne (.a 5) 0, .is (.a 4) 0, .is (.a 3) 0, .is (.a 9) 1, .ne (.a 9) 0, .le (.a 8) 2147483647, .ge (.a 8) (-2147483648), .is (.a 0) 2, .ne (.a 0) 1]) : CanonQ val :=
  canonLeaf h (by kernel_rfl)

theorem canonQ90 (val : Nat → Int) (h : Holds val [.ne (.a 4) 0, .is (.a 3) 0, .is (.a 9) 1, .ne (.a 9) 0, .le (.a 8) 2147483647, .ge (.a 8) (-2147483648), .is (.a 0) 2, .ne (.a 0) 1]) : CanonQ val :=
  canonLeaf h (by kernel_rfl)

theorem canonQ91 (val : Nat → Int) (h : Holds val [.is (.a 7) 0, .is (.a 6) 0, .is (.a 5) 0, .is (.a 4) 0, .is (.a 3) 8, .ne (.a 3) 0, .is (.a 9) 1, .ne (.a 9) 0, .le (.a 8) 2147483647, .ge (.a 8) (-2147483648), .is (.a 0) 2, .ne (.a 0) 1]) : CanonQ val :=
  canonLeaf h (by kernel_rfl)

theorem canonQ92 (val : Nat → Int) (h : Holds val [.ne (.a 7) 0, .is (.a 6) 0, .is (.a 5) 0, .is (.a 4) 0, .is (.a 3) 8, .ne (.a 3) 0, .is (.a 9) 1, .ne (.a 9) 0, .le (.a 8) 2147483647, .ge (.a 8) (-2147483648), .is (.a 0) 2, .ne (.a 0) 1]) : CanonQ val :=
  canonLeaf h (by kernel_rfl)

theorem canonQ93 (val : Nat → Int) (h : Holds val [.ne (.a 6) 0, .is (.a 5) 0, .is (.a 4) 0, .is (.a 3) 8, .ne (.a 3) 0, .is (.a 9) 1, .ne (.a 9) 0, .le (.a 8) 2147483647, .ge (.a 8) (-2147483648), .is (.a 0) 2, .ne (.a 0) 1]) : CanonQ val :=
  canonLeaf h (by kernel_rfl)

theorem canonQ94 (val : Nat → Int) (h : Holds val [.is (.a 7) 1, .le (.a 6) 15, .ge (.a 6) 0, .is (.a 5) 5, .ne (.a 5) 0, .is (.a 4) 0, .is (.a 3) 8, .ne (.a 3) 0, .is (.a 9) 1, .ne (.a 9) 0, .le (.a 8) 2147483647, .ge (.a 8) (-2147483648), .is (.a 0) 2, .ne (.a 0) 1]) : CanonQ val :=
  canonLeaf h (by kernel_rfl)

theorem canonQ95 (val : Nat → Int) (h : Holds val [.is (.a 7) 2, .ne (.a 7) 1, .le (.a 6) 15, .ge (.a 6) 0, .is (.a 5) 5, .ne (.a 5) 0, .is (.a 4) 0, .is (.a 3) 8, .ne (.a 3) 0, .is (.a 9) 1, .ne (.a 9) 0, .le (.a 8) 2147483647, .ge (.a 8) (-2147483648), .is (.a 0) 2, .ne (.a 0) 1]) : CanonQ val :=
  canonLeaf h (by kernel_rfl)

theorem canonQ96 (val : Nat → Int) (h : Holds val [.is (.a 7) 4, .ne (.a 7) 2, .ne (.a 7) 1, .le (.a 6) 15, .ge (.a 6) 0, .is (.a 5) 5, .ne (.a 5) 0, .is (.a 4) 0, .is (.a 3) 8, .ne (.a 3) 0, .is (.a 9) 1, .ne (.a 9) 0, .le (.a 8) 2147483647, .ge (.a 8) (-2147483648), .is (.a 0) 2, .ne (.a 0) 1]) : CanonQ val :=
  canonLeaf h (by kernel_rfl)

theorem canonQ97 (val : Nat → Int) (h : Holds val [.is (.a 7) 8, .ne (.a 7) 4, .ne (.a 7) 2, .ne (.a 7) 1, .le (.a 6) 15, .ge (.a 6) 0, .is (.a 5) 5, .ne (.a 5) 0, .is (.a 4) 0, .is (.a 3) 8, .ne (.a 3) 0, .is (.a 9) 1, .ne (.a 9) 0, .le (.a 8) 2147483647, .ge (.a 8) (-2147483648), .is (.a 0) 2, .ne (.a 0) 1]) : CanonQ val :=
  canonLeaf h (by kernel_rfl)

theorem canonQ98 (val : Nat → Int) (h : Holds val [.ne (.a 7) 8, .ne (.a 7) 4, .ne (.a 7) 2, .ne (.a 7) 1, .le (.a 6) 15, .ge (.a 6) 0, .is (.a 5) 5, .ne (.a 5) 0, .is (.a 4) 0, .is (.a 3) 8, .ne (.a 3) 0, .is (.a 9) 1, .ne (.a 9) 0, .le (.a 8) 2147483647, .ge (.a 8) (-2147483648), .is (.a 0) 2, .ne (.a 0) 1]) : CanonQ val :=
  canonLeaf h (by kernel_rfl)

theorem canonQ99 (val : Nat → Int) (h : Holds val [.ge (.a 6) 16, .ge (.a 6) 0, .is (.a 5) 5, .ne (.a 5) 0, .is (.a 4) 0, .is (.a 3) 8, .ne (.a 3) 0, .is (.a 9) 1, .ne (.a 9) 0, .le (.a 8) 2147483647, .ge (.a 8) (-2147483648), .is (.a 0) 2, .ne (.a 0) 1]) : CanonQ val :=
  canonLeaf h (by kernel_rfl)

theorem canonQ100 (val : Nat → Int) (h : Holds val [.le (.a 6) (-1), .is (.a 5) 5, .ne (.a 5) 0, .is (.a 4) 0, .is (.a 3) 8, .ne (.a 3) 0, .is (.a 9) 1, .ne (.a 9) 0, .le (.a 8) 2147483647, .ge (.a 8) (-2147483648), .is (.a 0) 2, .ne (.a 0) 1]) : CanonQ val :=
  canonLeaf h (by kernel_rfl)

theorem canonQ101 (val : Nat → Int) (h : Holds val [.ne (.a 5) 5, .ne (.a 5) 0, .is (.a 4) 0, .is (.a 3) 8, .ne (.a 3) 0, .is (.a 9) 1, .ne (.a 9) 0, .le (.a 8) 2147483647, .ge (.a 8) (-2147483648), .is (.a 0) 2, .ne (.a 0) 1]) : CanonQ val :=
  canonLeaf h (by kernel_rfl)

theorem canonQ102 (val : Nat → Int) (h : Holds val [.ne (.a 4) 0, .is (.a 3) 8, .ne (.a 3) 0, .is (.a 9) 1, .ne (.a 9) 0, .le (.a 8) 2147483647, .ge (.a 8) (-2147483648), .is (.a 0) 2, .ne (.a 0) 1]) : CanonQ val :=
  canonLeaf h (by kernel_rfl)

theorem canonQ103 (val : Nat → Int) (h : Holds val [.is (.a 7) 0, .is (.a 6) 0, .is (.a 5) 0, .le (.a 4) 15, .ge (.a 4) 0, .is (.a 3) 5, .ne (.a 3) 8, .ne (.a 3) 0, .is (.a 9) 1, .ne (.a 9) 0, .le (.a 8) 2147483647, .ge (.a 8) (-2147483648), .is (.a 0) 2, .ne (.a 0) 1]) : CanonQ val :=
  canonLeaf h (by kernel_rfl)

theorem canonQ104 (val : Nat → Int) (h : Holds val [.ne (.a 7) 0, .is (.a 6) 0, .is (.a 5) 0, .le (.a 4) 15, .ge (.a 4) 0, .is (.a 3) 5, .ne (.a 3) 8, .ne (.a 3) 0, .is (.a 9) 1, .ne (.a 9) 0, .le (.a 8) 2147483647, .ge (.a 8) (-2147483648), .is (.a 0) 2, .ne (.a 0) 1]) : CanonQ val :=
  canonLeaf h (by kernel_rfl)

theorem canonQ105 (val : Nat → Int) (h : Holds val [.ne (.a 6) 0, .is (.a 5) 0, .le (.a 4) 15, .ge (.a 4) 0, .is (.a 3) 5, .ne (.a 3) 8, .ne (.a 3) 0, .is (.a 9) 1, .ne (.a 9) 0, .le (.a 8) 2147483647, .ge (.a 8) (-2147483648), .is (.a 0) 2, .ne (.a 0) 1]) : CanonQ val :=
  canonLeaf h (by kernel_rfl)

theorem canonQ106 (val : Nat → Int) (h : Holds val [.is (.a 4) 4, .is (.a 6) 4, .is (.a 7) 1, .le (.a 6) 15, .ge (.a 6) 0, .is (.a 5) 5, .ne (.a 5) 0, .le (.a 4) 15, .ge (.a 4) 0, .is (.a 3) 5, .ne (.a 3) 8, .ne (.a 3) 0, .is (.a 9) 1, .ne (.a 9) 0, .le (.a 8) 2147483647, .ge (.a 8) (-2147483648), .is (.a 0) 2, .ne (.a 0) 1]) : CanonQ val :=
  canonLeaf h (by kernel_rfl)

theorem canonQ107 (val : Nat → Int) (h : Holds val [.ne (.a 4) 4, .is (.a 6) 4, .is (.a 7) 1, .le (.a 6) 15, .ge (.a 6) 0, .is (.a 5) 5, .ne (.a 5) 0, .le (.a 4) 15, .ge (.a 4) 0, .is (.a 3) 5, .ne (.a 3) 8, .ne (.a 3) 0, .is (.a 9) 1, .ne (.a 9) 0, .le (.a 8) 2147483647, .ge (.a 8) (-2147483648), .is (.a 0) 2, .ne (.a 0) 1]) : CanonQ val :=
  canonLeaf h (by kernel_rfl)

theorem canonQ108 (val : Nat → Int) (h : Holds val [.ne (.a 6) 4, .is (.a 7) 1, .le (.a 6) 15, .ge (.a 6) 0, .is (.a 5) 5, .ne (.a 5) 0, .le (.a 4) 15, .ge (.a 4) 0, .is (.a 3) 5, .ne (.a 3) 8, .ne (.a 3) 0, .is (.a 9) 1, .ne (.a 9) 0, .le (.a 8) 2147483647, .ge (.a 8) (-2147483648), .is (.a 0) 2, .ne (.a 0) 1]) : CanonQ val :=
  canonLeaf h (by kernel_rfl)

theorem canonQ109 (val : Nat → Int) (h : Holds val [.is (.a 6) 4, .is (.a 7) 2, .ne (.a 7) 1, .le (.a 6) 15, .ge (.a 6) 0, .is (.a 5) 5, .ne (.a 5) 0, .le (.a 4) 15, .ge (.a 4) 0, .is (.a 3) 5, .ne (.a 3) 8, .ne (.a 3) 0, .is (.a 9) 1, .ne (.a 9) 0, .le (.a 8) 2147483647, .ge (.a 8) (-2147483648), .is (.a 0) 2, .ne (.a 0) 1]) : CanonQ val :=
  canonLeaf h (by kernel_rfl)

theorem canonQ110 (val : Nat → Int) (h : Holds val [.ne (.a 6) 4, .is (.a 7) 2, .ne (.a 7) 1, .le (.a 6) 15, .ge (.a 6) 0, .is (.a 5) 5, .ne (.a 5) 0, .le (.a 4) 15, .ge (.a 4) 0, .is (.a 3) 5, .ne (.a 3) 8, .ne (.a 3) 0, .is (.a 9) 1, .ne (.a 9) 0, .le (.a 8) 2147483647, .ge (.a 8) (-2147483648), .is (.a 0) 2, .ne (.a 0) 1]) : CanonQ val :=
  canonLeaf h (by kernel_rfl)

theorem canonQ111 (val : Nat → Int) (h : Holds val [.is (.a 6) 4, .is (.a 7) 4, .ne (.a 7) 2, .ne (.a 7) 1, .le (.a 6) 15, .ge (.a 6) 0, .is (.a 5) 5, .ne (.a 5) 0, .le (.a 4) 15, .ge (.a 4) 0, .is (.a 3) 5, .ne (.a 3) 8, .ne (.a 3) 0, .is (.a 9) 1, .ne (.a 9) 0, .le (.a 8) 2147483647, .ge (.a 8) (-2147483648), .is (.a 0) 2, .ne (.a 0) 1]) : CanonQ val :=
  canonLeaf h (by kernel_rfl)

theorem canonQ112 (val : Nat → Int) (h : Holds val [.ne (.a 6) 4, .is (.a 7) 4, .ne (.a 7) 2, .ne (.a 7) 1, .le (.a 6) 15, .ge (.a 6) 0, .is (.a 5) 5, .ne (.a 5) 0, .le (.a 4) 15, .ge (.a 4) 0, .is (.a 3) 5, .ne (.a 3) 8, .ne (.a 3) 0, .is (.a 9) 1, .ne (.a 9) 0, .le (.a 8) 2147483647, .ge (.a 8) (-2147483648), .is (.a 0) 2, .ne (.a 0) 1]) : CanonQ val :=
  canonLeaf h (by kernel_rfl)

theorem canonQ113 (val : Nat → Int) (h : Holds val [.is (.a 6) 4, .is (.a 7) 8, .ne (.a 7) 4, .ne (.a 7) 2, .ne (.a 7) 1, .le (.a 6) 15, .ge (.a 6) 0, .is (.a 5) 5, .ne (.a 5) 0, .le (.a 4) 15, .ge (.a 4) 0, .is (.a 3) 5, .ne (.a 3) 8, .ne (.a 3) 0, .is (.a 9) 1, .ne (.a 9) 0, .le (.a 8) 2147483647, .ge (.a 8) (-2147483648), .is (.a 0) 2, .ne (.a 0) 1]) : CanonQ val :=
  canonLeaf h (by kernel_rfl)

theorem canonQ114 (val : Nat → Int) (h : Holds val [.ne (.a 6) 4, .is (.a 7) 8, .ne (.a 7) 4, .ne (.a 7) 2, .ne (.a 7) 1, .le (.a 6) 15, .ge (.a 6) 0, .is (.a 5) 5, .ne (.a 5) 0, .le (.a 4) 15, .ge (.a 4) 0, .is (.a 3) 5, .ne (.a 3) 8, .ne (.a 3) 0, .is (.a 9) 1, .ne (.a 9) 0, .le (.a 8) 2147483647, .ge (.a 8) (-2147483648), .is (.a 0) 2, .ne (.a 0) 1]) : CanonQ val :=
  canonLeaf h (by kernel_rfl)

theorem canonQ115 (val : Nat → Int) (h : Holds val [.ne (.a 7) 8, .ne (.a 7) 4, .ne (.a 7) 2, .ne (.a 7) 1, .le (.a 6) 15, .ge (.a 6) 0, .is (.a 5) 5, .ne (.a 5) 0, .le (.a 4) 15, .ge (.a 4) 0, .is (.a 3) 5, .ne (.a 3) 8, .ne (.a 3) 0, .is (.a 9) 1, .ne (.a 9) 0, .le (.a 8) 2147483647, .ge (.a 8) (-2147483648), .is (.a 0) 2, .ne (.a 0) 1]) : CanonQ val :=
  canonLeaf h (by kernel_rfl)

theorem canonQ116 (val : Nat → Int) (h : Holds val [.ge (.a 6) 16, .ge (.a 6) 0, .is (.a 5) 5, .ne (.a 5) 0, .le (.a 4) 15, .ge (.a 4) 0, .is (.a 3) 5, .ne (.a 3) 8, .ne (.a 3) 0, .is (.a 9) 1, .ne (.a 9) 0, .le (.a 8) 2147483647, .ge (.a 8) (-2147483648), .is (.a 0) 2, .ne (.a 0) 1]) : CanonQ val :=
  canonLeaf h (by kernel_rfl)

theorem canonQ117 (val : Nat → Int) (h : Holds val [.le (.a 6) (-1), .is (.a 5) 5, .ne (.a 5) 0, .le (.a 4) 15, .ge (.a 4) 0, .is (.a 3) 5, .ne (.a 3) 8, .ne (.a 3) 0, .is (.a 9) 1, .ne (.a 9) 0, .le (.a 8) 2147483647, .ge (.a 8) (-2147483648), .is (.a 0) 2, .ne (.a 0) 1]) : CanonQ val :=
  canonLeaf h (by kernel_rfl)

theorem canonQ118 (val : Nat → Int) (h : Holds val [.ne (.a 5) 5, .ne (.a 5) 0, .le (.a 4) 15, .ge (.a 4) 0, .is (.a 3) 5, .ne (.a 3) 8, .ne (.a 3) 0, .is (.a 9) 1, .ne (.a 9) 0, .le (.a 8) 2147483647, .ge (.a 8) (-2147483648), .is (.a 0) 2, .ne (.a 0) 1]) : CanonQ val :=
  canonLeaf h (by kernel_rfl)

theorem canonQ119 (val : Nat → Int) (h : Holds val [.ge (.a 4) 16, .ge (.a 4) 0, .is (.a 3) 5, .ne (.a 3) 8, .ne (.a 3) 0, .is (.a 9) 1, .ne (.a 9) 0, .le (.a 8) 2147483647, .ge (.a 8) (-2147483648), .is (.a 0) 2, .ne (.a 0) 1]) : CanonQ val :=
  canonLeaf h (by kernel_rfl)

theorem canonQ120 (val : Nat → Int) (h : Holds val [.le (.a 4) (-1), .is (.a 3) 5, .ne (.a 3) 8, .ne (.a 3) 0, .is (.a 9) 1, .ne (.a 9) 0, .le (.a 8) 2147483647, .ge (.a 8) (-2147483648), .is (.a 0) 2, .ne (.a 0) 1]) : CanonQ val :=
  canonLeaf h (by kernel_rfl)

end Go.Proofs.Ytclhjdddakmafaa.Tab
