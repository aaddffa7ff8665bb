/-
  Ways through the code, part 2.
-/
import Derived.Test.YtclhjdddakmafaaCanonQH
namespace Go.Proofs.Ytclhjdddakmafaa.Tab
open Go.Sim
set_option maxRecDepth 100000

theorem canonQ242 (val : Nat → Int) (h : Holds val [.ne (.a 5) 5, .ne (.a 5) 0, .is (.a 4) 0, .is (.a 3) 8, .ne (.a 3) 0, .is (.a 9) 8, .ne (.a 9) 4, .ne (.a 9) 2, .ne (.a 9) 1, .ne (.a 9) 0, .le (.a 8) 2147483647, .ge (.a 8) (-2147483648), .is (.a 0) 2, .ne (.a 0) 1]) : CanonQ val :=
  canonLeaf h (by kernel_rfl)

theorem canonQ243 (val : Nat → Int) (h : Holds val [.ne (.a 4) 0, .is (.a 3) 8, .ne (.a 3) 0, .is (.a 9) 8, .ne (.a 9) 4, .ne (.a 9) 2, .ne (.a 9) 1, .ne (.a 9) 0, .le (.a 8) 2147483647, .ge (.a 8) (-2147483648), .is (.a 0) 2, .ne (.a 0) 1]) : CanonQ val :=
  canonLeaf h (by kernel_rfl)

theorem canonQ244 (val : Nat → Int) (h : Holds val [.is (.a 7) 0, .is (.a 6) 0, .is (.a 5) 0, .le (.a 4) 15, .ge (.a 4) 0, .is (.a 3) 5, .ne (.a 3) 8, .ne (.a 3) 0, .is (.a 9) 8, .ne (.a 9) 4, .ne (.a 9) 2, .ne (.a 9) 1, .ne (.a 9) 0, .le (.a 8) 2147483647, .ge (.a 8) (-2147483648), .is (.a 0) 2, .ne (.a 0) 1]) : CanonQ val :=
  canonLeaf h (by kernel_rfl)

theorem canonQ245 (val : Nat → Int) (h : Holds val [.ne (.a 7) 0, .is (.a 6) 0, .is (.a 5) 0, .le (.a 4) 15, .ge (.a 4) 0, .is (.a 3) 5, .ne (.a 3) 8, .ne (.a 3) 0, .is (.a 9) 8, .ne (.a 9) 4, .ne (.a 9) 2, .ne (.a 9) 1, .ne (.a 9) 0, .le (.a 8) 2147483647, .ge (.a 8) (-2147483648), .is (.a 0) 2, .ne (.a 0) 1]) : CanonQ val :=
  canonLeaf h (by kernel_rfl)

theorem canonQ246 (val : Nat → Int) (h : Holds val [.ne (.a 6) 0, .is (.a 5) 0, .le (.a 4) 15, .ge (.a 4) 0, .is (.a 3) 5, .ne (.a 3) 8, .ne (.a 3) 0, .is (.a 9) 8, .ne (.a 9) 4, .ne (.a 9) 2, .ne (.a 9) 1, .ne (.a 9) 0, .le (.a 8) 2147483647, .ge (.a 8) (-2147483648), .is (.a 0) 2, .ne (.a 0) 1]) : CanonQ val :=
  canonLeaf h (by kernel_rfl)

theorem canonQ247 (val : Nat → Int) (h : Holds val [.is (.a 4) 4, .is (.a 6) 4, .is (.a 7) 1, .le (.a 6) 15, .ge (.a 6) 0, .is (.a 5) 5, .ne (.a 5) 0, .le (.a 4) 15, .ge (.a 4) 0, .is (.a 3) 5, .ne (.a 3) 8, .ne (.a 3) 0, .is (.a 9) 8, .ne (.a 9) 4, .ne (.a 9) 2, .ne (.a 9) 1, .ne (.a 9) 0, .le (.a 8) 2147483647, .ge (.a 8) (-2147483648), .is (.a 0) 2, .ne (.a 0) 1]) : CanonQ val :=
  canonLeaf h (by kernel_rfl)

theorem canonQ248 (val : Nat → Int) (h : Holds val [.ne (.a 4) 4, .is (.a 6) 4, .is (.a 7) 1, .le (.a 6) 15, .ge (.a 6) 0, .is (.a 5) 5, .ne (.a 5) 0, .le (.a 4) 15, .ge (.a 4) 0, .is (.a 3) 5, .ne (.a 3) 8, .ne (.a 3) 0, .is (.a 9) 8, .ne (.a 9) 4, .ne (.a 9) 2, .ne (.a 9) 1, .ne (.a 9) 0, .le (.a 8) 2147483647, .ge (.a 8) (-2147483648), .is (.a 0) 2, .ne (.a 0) 1]) : CanonQ val :=
  canonLeaf h (by kernel_rfl)

theorem canonQ249 (val : Nat → Int) (h : Holds val [.ne (.a 6) 4, .is (.a 7) 1, .le (.a 6) 15, .ge (.a 6) 0, .is (.a 5) 5, .ne (.a 5) 0, .le (.a 4) 15, .ge (.a 4) 0, .is (.a 3) 5, .ne (.a 3) 8, .ne (.a 3) 0, .is (.a 9) 8, .ne (.a 9) 4, .ne (.a 9) 2, .ne (.a 9) 1, .ne (.a 9) 0, .le (.a 8) 2147483647, .ge (.a 8) (-2147483648), .is (.a 0) 2, .ne (.a 0) 1]) : CanonQ val :=
  canonLeaf h (by kernel_rfl)

theorem canonQ250 (val : Nat → Int) (h : Holds val [.is (.a 6) 4, .is (.a 7) 2, .ne (.a 7) 1, .le (.a 6) 15, .ge (.a 6) 0, .is (.a 5) 5, .ne (.a 5) 0, .le (.a 4) 15, .ge (.a 4) 0, .is (.a 3) 5, .ne (.a 3) 8, .ne (.a 3) 0, .is (.a 9) 8, .ne (.a 9) 4, .ne (.a 9) 2, .ne (.a 9) 1, .ne (.a 9) 0, .le (.a 8) 2147483647, .ge (.a 8) (-2147483648), .is (.a 0) 2, .ne (.a 0) 1]) : CanonQ val :=
  canonLeaf h (by kernel_rfl)

theorem canonQ251 (val : Nat → Int) (h : Holds val [.ne (.a 6) 4, .is (.a 7) 2, .ne (.a 7) 1, .le (.a 6) 15, .ge (.a 6) 0, .is (.a 5) 5, .ne (.a 5) 0, .le (.a 4) 15, .ge (.a 4) 0, .is (.a 3) 5, .ne (.a 3) 8, .ne (.a 3) 0, .is (.a 9) 8, .ne (.a 9) 4, .ne (.a 9) 2, .ne (.a 9) 1, .ne (.a 9) 0, .le (.a 8) 2147483647, .ge (.a 8) (-2147483648), .is (.a 0) 2, .ne (.a 0) 1]) : CanonQ val :=
  canonLeaf h (by kernel_rfl)

theorem canonQ252 (val : Nat → Int) (h : Holds val [.is (.a 6) 4, .is (.a 7) 4, .ne (.a 7) 2, .ne (.a 7) 1, .le (.a 6) 15, .ge (.a 6) 0, .is (.a 5) 5, .ne (.a 5) 0, .le (.a 4) 15, .ge (.a 4) 0, .is (.a 3) 5, .ne (.a 3) 8, .ne (.a 3) 0, .is (.a 9) 8, .ne (.a 9) 4, .ne (.a 9) 2, .ne (.a 9) 1, .ne (.a 9) 0, .le (.a 8) 2147483647, .ge (.a 8) (-2147483648), .is (.a 0) 2, .ne (.a 0) 1]) : CanonQ val :=
  canonLeaf h (by kernel_rfl)

theorem canonQ253 (val : Nat → Int) (h : Holds val [.ne (.a 6) 4, .is (.a 7) 4, .ne (.a 7) 2, .ne (.a 7) 1, .le (.a 6) 15, .ge (.a 6) 0, .is (.a 5) 5, .ne (.a 5) 0, .le (.a 4) 15, .ge (.a 4) 0, .is (.a 3) 5, .ne (.a 3) 8, .ne (.a 3) 0, .is (.a 9) 8, .ne (.a 9) 4, .ne (.a 9) 2, .ne (.a 9) 1, .ne (.a 9) 0, .le (.a 8) 2147483647, .ge (.a 8) (-2147483648), .is (.a 0) 2, .ne (.a 0) 1]) : CanonQ val :=
  canonLeaf h (by kernel_rfl)

theorem canonQ254 (val : Nat → Int) (h : Holds val [.is (.a 6) 4, .is (.a 7) 8, .ne (.a 7) 4, .ne (.a 7) 2, .ne (.a 7) 1, .le (.a 6) 15, .ge (.a 6) 0, .is (.a 5) 5, .ne (.a 5) 0, .le (.a 4) 15, .ge (.a 4) 0, .is (.a 3) 5, .ne (.a 3) 8, .ne (.a 3) 0, .is (.a 9) 8, .ne (.a 9) 4, .ne (.a 9) 2, .ne (.a 9) 1, .ne (.a 9) 0, .le (.a 8) 2147483647, .ge (.a 8) (-2147483648), .is (.a 0) 2, .ne (.a 0) 1]) : CanonQ val :=
  canonLeaf h (by kernel_rfl)

theorem canonQ255 (val : Nat → Int) (h : Holds val [.ne (.a 6) 4, .is (.a 7) 8, .ne (.a 7) 4, .ne (.a 7) 2, .ne (.a 7) 1, .le (.a 6) 15, .ge (.a 6) 0, .is (.a 5) 5, .ne (.a 5) 0, .le (.a 4) 15, .ge (.a 4) 0, .is (.a 3) 5, .ne (.a 3) 8, .ne (.a 3) 0, .is (.a 9) 8, .ne (.a 9) 4, .ne (.a 9) 2, .ne (.a 9) 1, .ne (.a 9) 0, .le (.a 8) 2147483647, .ge (.a 8) (-2147483648), .is (.a 0) 2, .ne (.a 0) 1]) : CanonQ val :=
  canonLeaf h (by kernel_rfl)

theorem canonQ256 (val : Nat → Int) (h : Holds val [.ne (.a 7) 8, .ne (.a 7) 4, .ne (.a 7) 2, .ne (.a 7) 1, .le (.a 6) 15, .ge (.a 6) 0, .is (.a 5) 5, .ne (.a 5) 0, .le (.a 4) 15, .ge (.a 4) 0, .is (.a 3) 5, .ne (.a 3) 8, .ne (.a 3) 0, .is (.a 9) 8, .ne (.a 9) 4, .ne (.a 9) 2, .ne (.a 9) 1, .ne (.a 9) 0, .le (.a 8) 2147483647, .ge (.a 8) (-2147483648), .is (.a 0) 2, .ne (.a 0) 1]) : CanonQ val :=
  canonLeaf h (by kernel_rfl)

theorem canonQ257 (val : Nat → Int) (h : Holds val [.ge (.a 6) 16, .ge (.a 6) 0, .is (.a 5) 5, .ne (.a 5) 0, .le (.a 4) 15, .ge (.a 4) 0, .is (.a 3) 5, .ne (.a 3) 8, .ne (.a 3) 0, .is (.a 9) 8, .ne (.a 9) 4, .ne (.a 9) 2, .ne (.a 9) 1, .ne (.a 9) 0, .le (.a 8) 2147483647, .ge (.a 8) (-2147483648), .is (.a 0) 2, .ne (.a 0) 1]) : CanonQ val :=
  canonLeaf h (by kernel_rfl)

theorem canonQ258 (val : Nat → Int) (h : Holds val [.le (.a 6) (-1), .is (.a 5) 5, .ne (.a 5) 0, .le (.a 4) 15, .ge (.a 4) 0, .is (.a 3) 5, .ne (.a 3) 8, .ne (.a 3) 0, .is (.a 9) 8, .ne (.a 9) 4, .ne (.a 9) 2, .ne (.a 9) 1, .ne (.a 9) 0, .le (.a 8) 2147483647, .ge (.a 8) (-2147483648), .is (.a 0) 2, .ne (.a 0) 1]) : CanonQ val :=
  canonLeaf h (by kernel_rfl)

theorem canonQ259 (val : Nat → Int) (h : Holds val [.ne (.a 5) 5, .ne (.a 5) 0, .le (.a 4) 15, .ge (.a 4) 0, .is (.a 3) 5, .ne (.a 3) 8, .ne (.a 3) 0, .is (.a 9) 8, .ne (.a 9) 4, .ne (.a 9) 2, .ne (.a 9) 1, .ne (.a 9) 0, .le (.a 8) 2147483647, .ge (.a 8) (-2147483648), .is (.a 0) 2, .ne (.a 0) 1]) : CanonQ val :=
  canonLeaf h (by kernel_rfl)

theorem canonQ260 (val : Nat → Int) (h : Holds val [.ge (.a 4) 16, .ge (.a 4) 0, .is (.a 3) 5, .ne (.a 3) 8, .ne (.a 3) 0, .is (.a 9) 8, .ne (.a 9) 4, .ne (.a 9) 2, .ne (.a 9) 1, .ne (.a 9) 0, .le (.a 8) 2147483647, .ge (.a 8) (-2147483648), .is (.a 0) 2, .ne (.a 0) 1]) : CanonQ val :=
  canonLeaf h (by kernel_rfl)

theorem canonQ261 (val : Nat → Int) (h : Holds val [.le (.a 4) (-1), .is (.a 3) 5, .ne (.a 3) 8, .ne (.a 3) 0, .is (.a 9) 8, .ne (.a 9) 4, .ne (.a 9) 2, .ne (.a 9) 1, .ne (.a 9) 0, .le (.a 8) 2147483647, .ge (.a 8) (-2147483648), .is (.a 0) 2, .ne (.a 0) 1]) : CanonQ val :=
  canonLeaf h (by kernel_rfl)

theorem canonQ262 (val : Nat → Int) (h : Holds val [.ne (.a 3) 5, .ne (.a 3) 8, .ne (.a 3) 0, .is (.a 9) 8, .ne (.a 9) 4, .ne (.a 9) 2, .ne (.a 9) 1, .ne (.a 9) 0, .le (.a 8) 2147483647, .ge (.a 8) (-2147483648), .is (.a 0) 2, .ne (.a 0) 1]) : CanonQ val :=
  canonLeaf h (by kernel_rfl)

theorem canonQ263 (val : Nat → Int) (h : Holds val [.is (.a 7) 0, .is (.a 6) 0, .is (.a 5) 0, .is (.a 4) 0, .is (.a 3) 0, .is (.a 9) 16, .ne (.a 9) 8, .ne (.a 9) 4, .ne (.a 9) 2, .ne (.a 9) 1, .ne (.a 9) 0, .le (.a 8) 2147483647, .ge (.a 8) (-2147483648), .is (.a 0) 2, .ne (.a 0) 1]) : CanonQ val :=
  canonLeaf h (by kernel_rfl)

theorem canonQ264 (val : Nat → Int) (h : Holds val [.ne (.a 7) 0, .is (.a 6) 0, .is (.a 5) 0, .is (.a 4) 0, .is (.a 3) 0, .is (.a 9) 16, .ne (.a 9) 8, .ne (.a 9) 4, .ne (.a 9) 2, .ne (.a 9) 1, .ne (.a 9) 0, .le (.a 8) 2147483647, .ge (.a 8) (-2147483648), .is (.a 0) 2, .ne (.a 0) 1]) : CanonQ val :=
  canonLeaf h (by kernel_rfl)

theorem canonQ265 (val : Nat → Int) (h : Holds val [.ne (.a 6) 0, .is (.a 5) 0, .is (.a 4) 0, .is (.a 3) 0, .is (.a 9) 16, .ne (.a 9) 8, .ne (.a 9) 4, .ne (.a 9) 2, .ne (.a 9) 1, .ne (.a 9) 0, .le (.a 8) 2147483647, .ge (.a 8) (-2147483648), .is (.a 0) 2, .ne (.a 0) 1]) : CanonQ val :=
  canonLeaf h (by kernel_rfl)

theorem canonQ266 (val : Nat → Int) (h : Holds val [.is (.a 6) 4, .is (.a 7) 1, .le (.a 6) 15, .ge (.a 6) 0, .is (.a 5) 5, .ne (.a 5) 0, .is (.a 4) 0, .is (.a 3) 0, .is (.a 9) 16, .ne (.a 9) 8, .ne (.a 9) 4, .ne (.a 9) 2, .ne (.a 9) 1, .ne (.a 9) 0, .le (.a 8) 2147483647, .ge (.a 8) (-2147483648), .is (.a 0) 2, .ne (.a 0) 1]) : CanonQ val :=
  canonLeaf h (by kernel_rfl)

theorem canonQ267 (val : Nat → Int) (h : Holds val [.ne (.a 6) 4, .is (.a 7) 1, .le (.a 6) 15, .ge (.a 6) 0, .is (.a 5) 5, .ne (.a 5) 0, .is (.a 4) 0, .is (.a 3) 0, .is (.a 9) 16, .ne (.a 9) 8, .ne (.a 9) 4, .ne (.a 9) 2, .ne (.a 9) 1, .ne (.a 9) 0, .le (.a 8) 2147483647, .ge (.a 8) (-2147483648), .is (.a 0) 2, .ne (.a 0) 1]) : CanonQ val :=
  canonLeaf h (by kernel_rfl)

theorem canonQ268 (val : Nat → Int) (h : Holds val [.is (.a 6) 4, .is (.a 7) 2, .ne (.a 7) 1, .le (.a 6) 15, .ge (.a 6) 0, .is (.a 5) 5, .ne (.a 5) 0, .is (.a 4) 0, .is (.a 3) 0, .is (.a 9) 16, .ne (.a 9) 8, .ne (.a 9) 4, .ne (.a 9) 2, .ne (.a 9) 1, .ne (.a 9) 0, .le (.a 8) 2147483647, .ge (.a 8) (-2147483648), .is (.a 0) 2, .ne (.a 0) 1]) : CanonQ val :=
  canonLeaf h (by kernel_rfl)

theorem canonQ269 (val : Nat → Int) (h : Holds val [.ne (.a 6) 4, .is (.a 7) 2, .ne (.a 7) 1, .le (.a 6) 15, .ge (.a 6) 0, .is (.a 5) 5, .ne (.a 5) 0, .is (.a 4) 0, .is (.a 3) 0, .is (.a 9) 16, .ne (.a 9) 8, .ne (.a 9) 4, .ne (.a 9) 2, .ne (.a 9) 1, .ne (.a 9) 0, .le (.a 8) 2147483647, .ge (.a 8) (-2147483648), .is (.a 0) 2, .ne (.a 0) 1]) : CanonQ val :=
  canonLeaf h (by kernel_rfl)

theorem canonQ270 (val : Nat → Int) (h : Holds val [.is (.a 6) 4, .is (.a 7) 4, .ne (.a 7) 2, .ne (.a 7) 1, .le (.a 6) 15, .ge (.a 6) 0, .is (.a 5) 5, .ne (.a 5) 0, .is (.a 4) 0, .is (.a 3) 0, .is (.a 9) 16, .ne (.a 9) 8, .ne (.a 9) 4, .ne (.a 9) 2, .ne (.a 9) 1, .ne (.a 9) 0, .le (.a 8) 2147483647, .ge (.a 8) (-2147483648), .is (.a 0) 2, .ne (.a 0) 1]) : CanonQ val :=
  canonLeaf h (by kernel_rfl)

theorem canonQ271 (val : Nat → Int) (h : Holds val [.ne (.a 6) 4, .is (.a 7) 4, .ne (.a 7) 2, .ne (.a 7) 1, .le (.a 6) 15, .ge (.a 6) 0, .is (.a 5) 5, .ne (.a 5) 0, .is (.a 4) 0, .is (.a 3) 0, .is (.a 9) 16, .ne (.a 9) 8, .ne (.a 9) 4, .ne (.a 9) 2, .ne (.a 9) 1, .ne (.a 9) 0, .le (.a 8) 2147483647, .ge (.a 8) (-2147483648), .is (.a 0) 2, .ne (.a 0) 1]) : CanonQ val :=
  canonLeaf h (by kernel_rfl)

theorem canonQ272 (val : Nat → Int) (h : Holds val [.is (.a 6) 4, .is (.a 7) 8, .ne (.a 7) 4, .ne (.a 7) 2, .ne (.a 7) 1, .le (.a 6) 15, .ge (.a 6) 0, .is (.a 5) 5, .ne (.a 5) 0, .is (.a 4) 0, .is (.a 3) 0, .is (.a 9) 16, .ne (.a 9) 8, .ne (.a 9) 4, .ne (.a 9) 2, .ne (.a 9) 1, .ne (.a 9) 0, .le (.a 8) 2147483647, .ge (.a 8) (-2147483648), .is (.a 0) 2, .ne (.a 0) 1]) : CanonQ val :=
  canonLeaf h (by kernel_rfl)

theorem canonQ273 (val : Nat → Int) (h : Holds val [.ne (.a 6) 4, .is (.a 7) 8, .ne (.a 7) 4, .ne (.a 7) 2, .ne (.a 7) 1, .le (.a 6) 15, .ge (.a 6) 0, .is (.a 5) 5, .ne (.a 5) 0, .is (.a 4) 0, .is (.a 3) 0, .is (.a 9) 16, .ne (.a 9) 8, .ne (.a 9) 4, .ne (.a 9) 2, .ne (.a 9) 1, .ne (.a 9) 0, .le (.a 8) 2147483647, .ge (.a 8) (-2147483648), .is (.a 0) 2, .ne (.a 0) 1]) : CanonQ val :=
  canonLeaf h (by kernel_rfl)

theorem canonQ274 (val : Nat → Int) (h : Holds val [.ne (.a 7) 8, .ne (.a 7) 4, .ne (.a 7) 2, .ne (.a 7) 1, .le (.a 6) 15, .ge (.a 6) 0, .is (.a 5) 5, .ne (.a 5) 0, .is (.a 4) 0, .is (.a 3) 0, .is (.a 9) 16, .ne (.a 9) 8, .ne (.a 9) 4, .ne (.a 9) 2, .ne (.a 9) 1, .ne (.a 9) 0, .le (.a 8) 2147483647, .ge (.a 8) (-2147483648), .is (.a 0) 2, .ne (.a 0) 1]) : CanonQ val :=
  canonLeaf h (by kernel_rfl)

theorem canonQ275 (val : Nat → Int) (h : Holds val [.ge (.a 6) 16, .ge (.a 6) 0, .is (.a 5) 5, .ne (.a 5) 0, .is (.a 4) 0, .is (.a 3) 0, .is (.a 9) 16, .ne (.a 9) 8, .ne (.a 9) 4, .ne (.a 9) 2, .ne (.a 9) 1, .ne (.a 9) 0, .le (.a 8) 2147483647, .ge (.a 8) (-2147483648), .is (.a 0) 2, .ne (.a 0) 1]) : CanonQ val :=
  canonLeaf h (by kernel_rfl)

theorem canonQ276 (val : Nat → Int) (h : Holds val [.le (.a 6) (-1), .is (.a 5) 5, .ne (.a 5) 0, .is (.a 4) 0, .is (.a 3) 0, .is (.a 9) 16, .ne (.a 9) 8, .ne (.a 9) 4, .ne (.a 9) 2, .ne (.a 9) 1, .ne (.a 9) 0, .le (.a 8) 2147483647, .ge (.a 8) (-2147483648), .is (.a 0) 2, .ne (.a 0) 1]) : CanonQ val :=
  canonLeaf h (by kernel_rfl)

theorem canonQ277 (val : Nat → Int) (h : Holds val [.ne (.a 5) 5, .ne (.a 5) 0, .is (.a 4) 0, .is (.a 3) 0, .is (.a 9) 16, .ne (.a 9) 8, .ne (.a 9) 4, .ne (.a 9) 2, .ne (.a 9) 1, .ne (.a 9) 0, .le (.a 8) 2147483647, .ge (.a 8) (-2147483648), .is (.a 0) 2, .ne (.a 0) 1]) : CanonQ val :=
  canonLeaf h (by kernel_rfl)

theorem canonQ278 (val : Nat → Int) (h : Holds val [.ne (.a 4) 0, .is (.a 3) 0, .is (.a 9) 16, .ne (.a 9) 8, .ne (.a 9) 4, .ne (.a 9) 2, .ne (.a 9) 1, .ne (.a 9) 0, .le (.a 8) 2147483647, .ge (.a 8) (-2147483648), .is (.a 0) 2, .ne (.a 0) 1]) : CanonQ val :=
  canonLeaf h (by kernel_rfl)

theorem canonQ279 (val : Nat → Int) (h : Holds val [.is (.a 7) 0, .is (.a 6) 0, .is (.a 5) 0, .is (.a 4) 0, .is (.a 3) 8, .ne (.a 3) 0, .is (.a 9) 16, .ne (.a 9) 8, .ne (.a 9) 4, .ne (.a 9) 2, .ne (.a 9) 1, .ne (.a 9) 0, .le (.a 8) 2147483647, .ge (.a 8) (-2147483648), .is (.a 0) 2, .ne (.a 0) 1]) : CanonQ val :=
  canonLeaf h (by kernel_rfl)

theorem canonQ280 (val : Nat → Int) (h : Holds val [.ne (.a 7) 0, .is (.a 6) 0, .is (.a 5) 0, .is (.a 4) 0, .is (.a 3) 8, .ne (.a 3) 0, .is (.a 9) 16, .ne (.a 9) 8, .ne (.a 9) 4, .ne (.a 9) 2, .ne (.a 9) 1, .ne (.a 9) 0, .le (.a 8) 2147483647, .ge (.a 8) (-2147483648), .is (.a 0) 2, .ne (.a 0) 1]) : CanonQ val :=
  canonLeaf h (by kernel_rfl)

theorem canonQ281 (val : Nat → Int) (h : Holds val [.ne (.a 6) 0, .is (.a 5) 0, .is (.a 4) 0, .is (.a 3) 8, .ne (.a 3) 0, .is (.a 9) 16, .ne (.a 9) 8, .ne (.a 9) 4, .ne (.a 9) 2, .ne (.a 9) 1, .ne (.a 9) 0, .le (.a 8) 2147483647, .ge (.a 8) (-2147483648), .is (.a 0) 2, .ne (.a 0) 1]) : CanonQ val :=
  canonLeaf h (by kernel_rfl)

theorem canonQ282 (val : Nat → Int) (h : Holds val [.is (.a 7) 1, .le (.a 6) 15, .ge (.a 6) 0, .is (.a 5) 5, .ne (.a 5) 0, .is (.a 4) 0, .is (.a 3) 8, .ne (.a 3) 0, .is (.a 9) 16, .ne (.a 9) 8, .ne (.a 9) 4, .ne (.a 9) 2, .ne (.a 9) 1, .ne (.a 9) 0, .le (.a 8) 2147483647, .ge (.a 8) (-2147483648), .is (.a 0) 2, .ne (.a 0) 1]) : CanonQ val :=
  canonLeaf h (by kernel_rfl)

theorem canonQ283 (val : Nat → Int) (h : Holds val [.is (.a 7) 2, .ne (.a 7) 1, .le (.a 6) 15, .ge (.a 6) 0, .is (.a 5) 5, .ne (.a 5) 0, .is (.a 4) 0, .is (.a 3) 8, .ne (.a 3) 0, .is (.a 9) 16, .ne (.a 9) 8, .ne (.a 9) 4, .ne (.a 9) 2, .ne (.a 9) 1, .ne (.a 9) 0, .le (.a 8) 2147483647, .ge (.a 8) (-2147483648), .is (.a 0) 2, .ne (.a 0) 1]) : CanonQ val :=
  canonLeaf h (by kernel_rfl)

theorem canonQ284 (val : Nat → Int) (h : Holds val [.is (.a 7) 4, .ne (.a 7) 2, .ne (.a 7) 1, .le (.a 6) 15, .ge (.a 6) 0, .is (.a 5) 5, .ne (.a 5) 0, .is (.a 4) 0, .is (.a 3) 8, .ne (.a 3) 0, .is (.a 9) 16, .ne (.a 9) 8, .ne (.a 9) 4, .ne (.a 9) 2, .ne (.a 9) 1, .ne (.a 9) 0, .le (.a 8) 2147483647, .ge (.a 8) (-2147483648), .is (.a 0) 2, .ne (.a 0) 1]) : CanonQ val :=
  canonLeaf h (by kernel_rfl)

theorem canonQ285 (val : Nat → Int) (h : Holds val [.is (.a 7) 8, .ne (.a 7) 4, .ne (.a 7) 2, .ne (.a 7) 1, .le (.a 6) 15, .ge (.a 6) 0, .is (.a 5) 5, .ne (.a 5) 0, .is (.a 4) 0, .is (.a 3) 8, .ne (.a 3) 0, .is (.a 9) 16, .ne (.a 9) 8, .ne (.a 9) 4, .ne (.a 9) 2, .ne (.a 9) 1, .ne (.a 9) 0, .le (.a 8) 2147483647, .ge (.a 8) (-2147483648), .is (.a 0) 2, .ne (.a 0) 1]) : CanonQ val :=
  canonLeaf h (by kernel_rfl)

theorem canonQ286 (val : Nat → Int) (h : Holds val [.ne (.a 7) 8, .ne (.a 7) 4, .ne (.a 7) 2, .ne (.a 7) 1, .le (.a 6) 15, .ge (.a 6) 0, .is (.a 5) 5, .ne (.a 5) 0, .is (.a 4) 0, .is (.a 3) 8, .ne (.a 3) 0, .is (.a 9) 16, .ne (.a 9) 8, .ne (.a 9) 4, .ne (.a 9) 2, .ne (.a 9) 1, .ne (.a 9) 0, .le (.a 8) 2147483647, .ge (.a 8) (-2147483648), .is (.a 0) 2, .ne (.a 0) 1]) : CanonQ val :=
  canonLeaf h (by kernel_rfl)

theorem canonQ287 (val : Nat → Int) (h : Holds val [.ge (.a 6) 16, .ge (.a 6) 0, .is (.a 5) 5, .ne (.a 5) 0, .is (.a 4) 0, .is (.a 3) 8, .ne (.a 3) 0, .is (.a 9) 16, .ne (.a 9) 8, .ne (.a 9) 4, .ne (.a 9) 2, .ne (.a 9) 1, .ne (.a 9) 0, .le (.a 8) 2147483647, .ge (.a 8) (-2147483648), .is (.a 0) 2, .ne (.a 0) 1]) : CanonQ val :=
  canonLeaf h (by kernel_rfl)

theorem canonQ288 (val : Nat → Int) (h : Holds val [.le (.a 6) (-1), .is (.a 5) 5, .ne (.a 5) 0, .is (.a 4) 0, .is (.a 3) 8, .ne (.a 3) 0, .is (.a 9) 16, .ne (.a 9) 8, .ne (.a 9) 4, .ne (.a 9) 2, .ne (.a 9) 1, .ne (.a 9) 0, .le (.a 8) 2147483647, .ge (.a 8) (-2147483648), .is (.a 0) 2, .ne (.a 0) 1]) : CanonQ val :=
  canonLeaf h (by kernel_rfl)

theorem canonQ289 (val : Nat → Int) (h : Holds val [.ne (.a 5) 5, .ne (.a 5) 0, .is (.a 4) 0, .is (.a 3) 8, .ne (.a 3) 0, .is (.a 9) 16, .ne (.a 9) 8, .ne (.a 9) 4, .ne (.a 9) 2, .ne (.a 9) 1, .ne (.a 9) 0, .le (.a 8) 2147483647, .ge (.a 8) (-2147483648), .is (.a 0) 2, .ne (.a 0) 1]) : CanonQ val :=
  canonLeaf h (by kernel_rfl)

theorem canonQ290 (val : Nat → Int) (h : Holds val [.ne (.a 4) 0, .is (.a 3) 8, .ne (.a 3) 0, .is (.a 9) 16, .ne (.a 9) 8, .ne (.a 9) 4, .ne (.a 9) 2, .ne (.a 9) 1, .ne (.a 9) 0, .le (.a 8) 2147483647, .ge (.a 8) (-2147483648), .is (.a 0) 2, .ne (.a 0) 1]) : CanonQ val :=
  canonLeaf h (by kernel_rfl)

theorem canonQ291 (val : Nat → Int) (h : Holds val [.is (.a 7) 0, .is (.a 6) 0, .is (.a 5) 0, .le (.a 4) 15, .ge (.a 4) 0, .is (.a 3) 5, .ne (.a 3) 8, .ne (.a 3) 0, .is (.a 9) 16, .ne (.a 9) 8, .ne (.a 9) 4, .ne (.a 9) 2, .ne (.a 9) 1, .ne (.a 9) 0, .le (.a 8) 2147483647, .ge (.a 8) (-2147483648), .is (.a 0) 2, .ne (.a 0) 1]) : CanonQ val :=
  canonLeaf h (by kernel_rfl)

theorem canonQ292 (val : Nat → Int) (h : Holds val [.ne (.a 7) 0, .is (.a 6) 0, .is (.a 5) 0, .le (.a 4) 15, .ge (.a 4) 0, .is (.a 3) 5, .ne (.a 3) 8, .ne (.a 3) 0, .is (.a 9) 16, .ne (.a 9) 8, .ne (.a 9) 4, .ne (.a 9) 2, .ne (.a 9) 1, .ne (.a 9) 0, .le (.a 8) 2147483647, .ge (.a 8) (-2147483648), .is (.a 0) 2, .ne (.a 0) 1]) : CanonQ val :=
  canonLeaf h (by kernel_rfl)

theorem canonQ293 (val : Nat → Int) (h : Holds val [.ne (.a 6) 0, .is (.a 5) 0, .le (.a 4) 15, .ge (.a 4) 0, .is (.a 3) 5, .ne (.a 3) 8, .ne (.a 3) 0, .is (.a 9) 16, .ne (.a 9) 8, .ne (.a 9) 4, .ne (.a 9) 2, .ne (.a 9) 1, .ne (.a 9) 0, .le (.a 8) 2147483647, .ge (.a 8) (-2147483648), .is (.a 0) 2, .ne (.a 0) 1]) : CanonQ val :=
  canonLeaf h (by kernel_rfl)

theorem canonQ294 (val : Nat → Int) (h : Holds val [.is (.a 4) 4, .is (.a 6) 4, .is (.a 7) 1, .le (.a 6) 15, .ge (.a 6) 0, .is (.a 5) 5, .ne (.a 5) 0, .le (.a 4) 15, .ge (.a 4) 0, .is (.a 3) 5, .ne (.a 3) 8, .ne (.a 3) 0, .is (.a 9) 16, .ne (.a 9) 8, .ne (.a 9) 4, .ne (.a 9) 2, .ne (.a 9) 1, .ne (.a 9) 0, .le (.a 8) 2147483647, .ge (.a 8) (-2147483648), .is (.a 0) 2, .ne (.a 0) 1]) : CanonQ val :=
  canonLeaf h (by kernel_rfl)

theorem canonQ295 (val : Nat → Int) (h : Holds val [.ne (.a 4) 4, .is (.a 6) 4, .is (.a 7) 1, .le (.a 6) 15, .ge (.a 6) 0, .is (.a 5) 5, .ne (.a 5) 0, .le (.a 4) 15, .ge (.a 4) 0, .is (.a 3) 5, .ne (.a 3) 8, .ne (.a 3) 0, .is (.a 9) 16, .ne (.a 9) 8, .ne (.a 9) 4, .ne (.a 9) 2, .ne (.a 9) 1, .ne (.a 9) 0, .le (.a 8) 2147483647, .ge (.a 8) (-2147483648), .is (.a 0) 2, .ne (.a 0) 1]) : CanonQ val :=
  canonLeaf h (by kernel_rfl)

theorem canonQ296 (val : Nat → Int) (h : Holds val [.ne (.a 6) 4, .is (.a 7) 1, .le (.a 6) 15, .ge (.a 6) 0, .is (.a 5) 5, .ne (.a 5) 0, .le (.a 4) 15, .ge (.a 4) 0, .is (.a 3) 5, .ne (.a 3) 8, .ne (.a 3) 0, .is (.a 9) 16, .ne (.a 9) 8, .ne (.a 9) 4, .ne (.a 9) 2, .ne (.a 9) 1, .ne (.a 9) 0, .le (.a 8) 2147483647, .ge (.a 8) (-2147483648), .is (.a 0) 2, .ne (.a 0) 1]) : CanonQ val :=
  canonLeaf h (by kernel_rfl)

theorem canonQ297 (val : Nat → Int) (h : Holds val [.is (.a 6) 4, .is (.a 7) 2, .ne (.a 7) 1, .le (.a 6) 15, .ge (.a 6) 0, .is (.a 5) 5, .ne (.a 5) 0, .le (.a 4) 15, .ge (.a 4) 0, .is (.a 3) 5, .ne (.a 3) 8, .ne (.a 3) 0, .is (.a 9) 16, .ne (.a 9) 8, .ne (.a 9) 4, .ne (.a 9) 2, .ne (.a 9) 1, .ne (.a 9) 0, .le (.a 8) 2147483647, .ge (.a 8) (-2147483648), .is (.a 0) 2, .ne (.a 0) 1]) : CanonQ val :=
  canonLeaf h (by kernel_rfl)

theorem canonQ298 (val : Nat → Int) (h : Holds val [.ne (.a 6) 4, .is (.a 7) 2, .ne (.a 7) 1, .le (.a 6) 15, .ge (.a 6) 0, .is (.a 5) 5, .ne (.a 5) 0, .le (.a 4) 15, .ge (.a 4) 0, .is (.a 3) 5, .ne (.a 3) 8, .ne (.a 3) 0, .is (.a 9) 16, .ne (.a 9) 8, .ne (.a 9) 4, .ne (.a 9) 2, .ne (.a 9) 1, .ne (.a 9) 0, .le (.a 8) 2147483647, .ge (.a 8) (-2147483648), .is (.a 0) 2, .ne (.a 0) 1]) : CanonQ val :=
  canonLeaf h (by kernel_rfl)

theorem canonQ299 (val : Nat → Int) (h : Holds val [.is (.a 6) 4, .is (.a 7) 4, .ne (.a 7) 2, .ne (.a 7) 1, .le (.a 6) 15, .ge (.a 6) 0, .is (.a 5) 5, .ne (.a 5) 0, .le (.a 4) 15, .ge (.a 4) 0, .is (.a 3) 5, .ne (.a 3) 8, .ne (.a 3) 0, .is (.a 9) 16, .ne (.a 9) 8, .ne (.a 9) 4, .ne (.a 9) 2, .ne (.a 9) 1, .ne (.a 9) 0, .le (.a 8) 2147483647, .ge (.a 8) (-2147483648), .is (.a 0) 2, .ne (.a 0) 1]) : CanonQ val :=
  canonLeaf h (by kernel_rfl)

theorem canonQ300 (val : Nat → Int) (h : Holds val [.ne (.a 6) 4, .is (.a 7) 4, .ne (.a 7) 2, .ne (.a 7) 1, .le (.a 6) 15, .ge (.a 6) 0, .is (.a 5) 5, .ne (.a 5) 0, .le (.a 4) 15, .ge (.a 4) 0, .is (.a 3) 5, .ne (.a 3) 8, .ne (.a 3) 0, .is (.a 9) 16, .ne (.a 9) 8, .ne (.a 9) 4, .ne (.a 9) 2, .ne (.a 9) 1, .ne (.a 9) 0, .le (.a 8) 2147483647, .ge (.a 8) (-2147483648), .is (.a 0) 2, .ne (.a 0) 1]) : CanonQ val :=
  canonLeaf h (by kernel_rfl)

theorem canonQ301 (val : Nat → Int) (h : Holds val [.is (.a 6) 4, .is (.a 7) 8, .ne (.a 7) 4, .ne (.a 7) 2, .ne (.a 7) 1, .le (.a 6) 15, .ge (.a 6) 0, .is (.a 5) 5, .ne (.a 5) 0, .le (.a 4) 15, .ge (.a 4) 0, .is (.a 3) 5, .ne (.a 3) 8, .ne (.a 3) 0, .is (.a 9) 16, .ne (.a 9) 8, .ne (.a 9) 4, .ne (.a 9) 2, .ne (.a 9) 1, .ne (.a 9) 0, .le (.a 8) 2147483647, .ge (.a 8) (-2147483648), .is (.a 0) 2, .ne (.a 0) 1]) : CanonQ val :=
  canonLeaf h (by kernel_rfl)

theorem canonQ302 (val : Nat → Int) (h : Holds val [.ne (.a 6) 4, .is (.a 7) 8, .ne (.a 7) 4, .ne (.a 7) 2, .ne (.a 7) 1, .le (.a 6) 15, .ge (.a 6) 0, .is (.a 5) 5, .ne (.a 5) 0, .le (.a 4) 15, .ge (.a 4) 0, .is (.a 3) 5, .ne (.a 3) 8, .ne (.a 3) 0, .is (.a 9) 16, .ne (.a 9) 8, .ne (.a 9) 4, .ne (.a 9) 2, .ne (.a 9) 1, .ne (.a 9) 0, .le (.a 8) 2147483647, .ge (.a 8) (-2147483648), .is (.a 0) 2, .ne (.a 0) 1]) : CanonQ val :=
  canonLeaf h (by kernel_rfl)

theorem canonQ303 (val : Nat → Int) (h : Holds val [.ne (.a 7) 8, .ne (.a 7) 4, .ne (.a 7) 2, .ne (.a 7) 1, .le (.a 6) 15, .ge (.a 6) 0, .is (.a 5) 5, .ne (.a 5) 0, .le (.a 4) 15, .ge (.a 4) 0, .is (.a 3) 5, .ne (.a 3) 8, .ne (.a 3) 0, .is (.a 9) 16, .ne (.a 9) 8, .ne (.a 9) 4, .ne (.a 9) 2, .ne (.a 9) 1, .ne (.a 9) 0, .le (.a 8) 2147483647, .ge (.a 8) (-2147483648), .is (.a 0) 2, .ne (.a 0) 1]) : CanonQ val :=
  canonLeaf h (by kernel_rfl)

theorem canonQ304 (val : Nat → Int) (h : Holds val [.ge (.a 6) 16, .ge (.a 6) 0, .is (.a 5) 5, .ne (.a 5) 0, .le (.a 4) 15, .ge (.a 4) 0, .is (.a 3) 5, .ne (.a 3) 8, .ne (.a 3) 0, .is (.a 9) 16, .ne (.a 9) 8, .ne (.a 9) 4, .ne (.a 9) 2, .ne (.a 9) 1, .ne (.a 9) 0, .le (.a 8) 2147483647, .ge (.a 8) (-2147483648), .is (.a 0) 2, .ne (.a 0) 1]) : CanonQ val :=
  canonLeaf h (by kernel_rfl)

theorem canonQ305 (val : Nat → Int) (h : Holds val [.le (.a 6) (-1), .is (.a 5) 5, .ne (.a 5) 0, .le (.a 4) 15, .ge (.a 4) 0, .is (.a 3) 5, .ne (.a 3) 8, .ne (.a 3) 0, .is (.a 9) 16, .ne (.a 9) 8, .ne (.a 9) 4, .ne (.a 9) 2, .ne (.a 9) 1, .ne (.a 9) 0, .le (.a 8) 2147483647, .ge (.a 8) (-2147483648), .is (.a 0) 2, .ne (.a 0) 1]) : CanonQ val :=
  canonLeaf h (by kernel_rfl)

theorem canonQ306 (val : Nat → Int) (h : Holds val [.ne (.a 5) 5, .ne (.a 5) 0, .le (.a 4) 15, .ge (.a 4) 0, .is (.a 3) 5, .ne (.a 3) 8, .ne (.a 3) 0, .is (.a 9) 16, .ne (.a 9) 8, .ne (.a 9) 4, .ne (.a 9) 2, .ne (.a 9) 1, .ne (.a 9) 0, .le (.a 8) 2147483647, .ge (.a 8) (-2147483648), .is (.a 0) 2, .ne (.a 0) 1]) : CanonQ val :=
  canonLeaf h (by kernel_rfl)

theorem canonQ307 (val : Nat → Int) (h : Holds val [.ge (.a 4) 16, .ge (.a 4) 0, .is (.a 3) 5, .ne (.a 3) 8, .ne (.a 3) 0, .is (.a 9) 16, .ne (.a 9) 8, .ne (.a 9) 4, .ne (.a 9) 2, .ne (.a 9) 1, .ne (.a 9) 0, .le (.a 8) 2147483647, .ge (.a 8) (-2147483648), .is (.a 0) 2, .ne (.a 0) 1]) : CanonQ val :=
  canonLeaf h (by kernel_rfl)

theorem canonQ308 (val : Nat → Int) (h : Holds val [.le (.a 4) (-1), .is (.a 3) 5, .ne (.a 3) 8, .ne (.a 3) 0, .is (.a 9) 16, .ne (.a 9) 8, .ne (.a 9) 4, .ne (.a 9) 2, .ne (.a 9) 1, .ne (.a 9) 0, .le (.a 8) 2147483647, .ge (.a 8) (-2147483648), .is (.a 0) 2, .ne (.a 0) 1]) : CanonQ val :=
  canonLeaf h (by kernel_rfl)

theorem canonQ309 (val : Nat → Int) (h : Holds val [.ne (.a 3) 5, .ne (.a 3) 8, .ne (.a 3) 0, .is (.a 9) 16, .ne (.a 9) 8, .ne (.a 9) 4, .ne (.a 9) 2, .ne (.a 9) 1, .ne (.a 9) 0, .le (.a 8) 2147483647, .ge (.a 8) (-2147483648), .is (.a 0) 2, .ne (.a 0) 1]) : CanonQ val :=
  canonLeaf h (by kernel_rfl)

theorem canonQ310 (val : Nat → Int) (h : Holds val [.is (.a 7) 0, .is (.a 6) 0, .is (.a 5) 0, .is (.a 4) 0, .is (.a 3) 0, .is (.a 9) 32, .ne (.a 9) 16, .ne (.a 9) 8, .ne (.a 9) 4, .ne (.a 9) 2, .ne (.a 9) 1, .ne (.a 9) 0, .le (.a 8) 2147483647, .ge (.a 8) (-2147483648), .is (.a 0) 2, .ne (.a 0) 1]) : CanonQ val :=
  canonLeaf h (by kernel_rfl)

theorem canonQ311 (val : Nat → Int) (h : Holds val [.ne (.a 7) 0, .is (.a 6) 0, .is (.a 5) 0, .is (.a 4) 0, .is (.a 3) 0, .is (.a 9) 32, .ne (.a 9) 16, .ne (.a 9) 8, .ne (.a 9) 4, .ne (.a 9) 2, .ne (.a 9) 1, .ne (.a 9) 0, .le (.a 8) 2147483647, .ge (.a 8) (-2147483648), .is (.a 0) 2, .ne (.a 0) 1]) : CanonQ val :=
  canonLeaf h (by kernel_rfl)

theorem canonQ312 (val : Nat → Int) (h : Holds val [.ne (.a 6) 0, .is (.a 5) 0, .is (.a 4) 0, .is (.a 3) 0, .is (.a 9) 32, .ne (.a 9) 16, .ne (.a 9) 8, .ne (.a 9) 4, .ne (.a 9) 2, .ne (.a 9) 1, .ne (.a 9) 0, .le (.a 8) 2147483647, .ge (.a 8) (-2147483648), .is (.a 0) 2, .ne (.a 0) 1]) : CanonQ val :=
  canonLeaf h (by kernel_rfl)

theorem canonQ313 (val : Nat → Int) (h : Holds val [.is (.a 6) 4, .is (.a 7) 1, .le (.a 6) 15, .ge (.a 6) 0, .is (.a 5) 5, .ne (.a 5) 0, .is (.a 4) 0, .is (.a 3) 0, .is (.a 9) 32, .ne (.a 9) 16, .ne (.a 9) 8, .ne (.a 9) 4, .ne (.a 9) 2, .ne (.a 9) 1, .ne (.a 9) 0, .le (.a 8) 2147483647, .ge (.a 8) (-2147483648), .is (.a 0) 2, .ne (.a 0) 1]) : CanonQ val :=
  canonLeaf h (by kernel_rfl)

theorem canonQ314 (val : Nat → Int) (h : Holds val [.ne (.a 6) 4, .is (.a 7) 1, .le (.a 6) 15, .ge (.a 6) 0, .is (.a 5) 5, .ne (.a 5) 0, .is (.a 4) 0, .is (.a 3) 0, .is (.a 9) 32, .ne (.a 9) 16, .ne (.a 9) 8, .ne (.a 9) 4, .ne (.a 9) 2, .ne (.a 9) 1, .ne (.a 9) 0, .le (.a 8) 2147483647, .ge (.a 8) (-2147483648), .is (.a 0) 2, .ne (.a 0) 1]) : CanonQ val :=
  canonLeaf h (by kernel_rfl)

theorem canonQ315 (val : Nat → Int) (h : Holds val [.is (.a 6) 4, .is (.a 7) 2, .ne (.a 7) 1, .le (.a 6) 15, .ge (.a 6) 0, .is (.a 5) 5, .ne (.a 5) 0, .is (.a 4) 0, .is (.a 3) 0, .is (.a 9) 32, .ne (.a 9) 16, .ne (.a 9) 8, .ne (.a 9) 4, .ne (.a 9) 2, .ne (.a 9) 1, .ne (.a 9) 0, .le (.a 8) 2147483647, .ge (.a 8) (-2147483648), .is (.a 0) 2, .ne (.a 0) 1]) : CanonQ val :=
  canonLeaf h (by kernel_rfl)

theorem canonQ316 (val : Nat → Int) (h : Holds val [.ne (.a 6) 4, .is (.a 7) 2, .ne (.a 7) 1, .le (.a 6) 15, .ge (.a 6) 0, .is (.a 5) 5, .ne (.a 5) 0, .is (.a 4) 0, .is (.a 3) 0, .is (.a 9) 32, .ne (.a 9) 16, .ne (.a 9) 8, .ne (.a 9) 4, .ne (.a 9) 2, .ne (.a 9) 1, .ne (.a 9) 0, .le (.a 8) 2147483647, .ge (.a 8) (-2147483648), .is (.a 0) 2, .ne (.a 0) 1]) : CanonQ val :=
  canonLeaf h (by kernel_rfl)

theorem canonQ317 (val : Nat → Int) (h : Holds val [.is (.a 6) 4, .is (.a 7) 4, .ne (.a 7) 2, .ne (.a 7) 1, .le (.a 6) 15, .ge (.a 6) 0, .is (.a 5) 5, .ne (.a 5) 0, .is (.a 4) 0, .is (.a 3) 0, .is (.a 9) 32, .ne (.a 9) 16, .ne (.a 9) 8, .ne (.a 9) 4, .ne (.a 9) 2, .ne (.a 9) 1, .ne (.a 9) 0, .le (.a 8) 2147483647, .ge (.a 8) (-2147483648), .is (.a 0) 2, .ne (.a 0) 1]) : CanonQ val :=
  canonLeaf h (by kernel_rfl)

theorem canonQ318 (val : Nat → Int) (h : Holds val [.ne (.a 6) 4, .is (.a 7) 4, .ne (.a 7) 2, .ne (.a 7) 1, .le (.a 6) 15, .ge (.a 6) 0, .is (.a 5) 5, .ne (.a 5) 0, .is (.a 4) 0, .is (.a 3) 0, .is (.a 9) 32, .ne (.a 9) 16, .ne (.a 9) 8, .ne (.a 9) 4, .ne (.a 9) 2, .ne (.a 9) 1, .ne (.a 9) 0, .le (.a 8) 2147483647, .ge (.a 8) (-2147483648), .is (.a 0) 2, .ne (.a 0) 1]) : CanonQ val :=
  canonLeaf h (by kernel_rfl)

theorem canonQ319 (val : Nat → Int) (h : Holds val [.is (.a 6) 4, .is (.a 7) 8, .ne (.a 7) 4, .ne (.a 7) 2, .ne (.a 7) 1, .le (.a 6) 15, .ge (.a 6) 0, .is (.a 5) 5, .ne (.a 5) 0, .is (.a 4) 0, .is (.a 3) 0, .is (.a 9) 32, .ne (.a 9) 16, .ne (.a 9) 8, .ne (.a 9) 4, .ne (.a 9) 2, .ne (.a 9) 1, .ne (.a 9) 0, .le (.a 8) 2147483647, .ge (.a 8) (-2147483648), .is (.a 0) 2, .ne (.a 0) 1]) : CanonQ val :=
  canonLeaf h (by kernel_rfl)

theorem canonQ320 (val : Nat → Int) (h : Holds val [.ne (.a 6) 4, .is (.a 7) 8, .ne (.a 7) 4, .ne (.a 7) 2, .ne (.a 7) 1, .le (.a 6) 15, .ge (.a 6) 0, .is (.a 5) 5, .ne (.a 5) 0, .is (.a 4) 0, .is (.a 3) 0, .is (.a 9) 32, .ne (.a 9) 16, .ne (.a 9) 8, .ne (.a 9) 4, .ne (.a 9) 2, .ne (.a 9) 1, .ne (.a 9) 0, .le (.a 8) 2147483647, .ge (.a 8) (-2147483648), .is (.a 0) 2, .ne (.a 0) 1]) : CanonQ val :=
  canonLeaf h (by kernel_rfl)

theorem canonQ321 (val : Nat → Int) (h : Holds val [.ne (.a 7) 8, .ne (.a 7) 4, .ne (.a 7) 2, .ne (.a 7) 1, .le (.a 6) 15, .ge (.a 6) 0, .is (.a 5) 5, .ne (.a 5) 0, .is (.a 4) 0, .is (.a 3) 0, .is (.a 9) 32, .ne (.a 9) 16, .ne (.a 9) 8, .ne (.a 9) 4, .ne (.a 9) 2, .ne (.a 9) 1, .ne (.a 9) 0, .le (.a 8) 2147483647, .ge (.a 8) (-2147483648), .is (.a 0) 2, .ne (.a 0) 1]) : CanonQ val :=
  canonLeaf h (by kernel_rfl)

theorem canonQ322 (val : Nat → Int) (h : Holds val [.ge (.a 6) 16, .ge (.a 6) 0, .is (.a 5) 5, .ne (.a 5) 0, .is (.a 4) 0, .is (.a 3) 0, .is (.a 9) 32, .ne (.a 9) 16, .ne (.a 9) 8, .ne (.a 9) 4, .ne (.a 9) 2, .ne (.a 9) 1, .ne (.a 9) 0, .le (.a 8) 2147483647, .ge (.a 8) (-2147483648), .is (.a 0) 2, .ne (.a 0) 1]) : CanonQ val :=
  canonLeaf h (by kernel_rfl)

theorem canonQ323 (val : Nat → Int) (h : Holds val [.le (.a 6) (-1), .is (.a 5) 5, .ne (.a 5) 0, .is (.a 4) 0, .is (.a 3) 0, .is (.a 9) 32, .ne (.a 9) 16, .ne (.a 9) 8, .ne (.a 9) 4, .ne (.a 9) 2, .ne (.a 9) 1, .ne (.a 9) 0, .le (.a 8) 2147483647, .ge (.a 8) (-2147483648), .is (.a 0) 2, .ne (.a 0) 1]) : CanonQ val :=
  canonLeaf h (by kernel_rfl)

theorem canonQ324 (val : Nat → Int) (h : Holds val [.ne (.a 5) 5, .ne (.a 5) 0, .is (.a 4) 0, .is (.a 3) 0, .is (.a 9) 32, .ne (.a 9) 16, .ne (.a 9) 8, .ne (.a 9) 4, .ne (.a 9) 2, .ne (.a 9) 1, .ne (.a 9) 0, .le (.a 8) 2147483647, .ge (.a 8) (-2147483648), .is (.a 0) 2, .ne (.a 0) 1]) : CanonQ val :=
  canonLeaf h (by kernel_rfl)

theorem canonQ325 (val : Nat → Int) (h : Holds val [.ne (.a 4) 0, .is (.a 3) 0, .is (.a 9) 32, .ne (.a 9) 16, .ne (.a 9) 8, .ne (.a 9) 4, .ne (.a 9) 2, .ne (.a 9) 1, .ne (.a 9) 0, .le (.a 8) 2147483647, .ge (.a 8) (-2147483648), .is (.a 0) 2, .ne (.a 0) 1]) : CanonQ val :=
  canonLeaf h (by kernel_rfl)

theorem canonQ326 (val : Nat → Int) (h : Holds val [.is (.a 7) 0, .is (.a 6) 0, .is (.a 5) 0, .is (.a 4) 0, .is (.a 3) 8, .ne (.a 3) 0, .is (.a 9) 32, .ne (.a 9) 16, .ne (.a 9) 8, .ne (.a 9) 4, .ne (.a 9) 2, .ne (.a 9) 1, .ne (.a 9) 0, .le (.a 8) 2147483647, .ge (.a 8) (-2147483648), .is (.a 0) 2, .ne (.a 0) 1]) : CanonQ val :=
  canonLeaf h (by kernel_rfl)

theorem canonQ327 (val : Nat → Int) (h : Holds val [.ne (.a 7) 0, .is (.a 6) 0, .is (.a 5) 0, .is (.a 4) 0, .is (.a 3) 8, .ne (.a 3) 0, .is (.a 9) 32, .ne (.a 9) 16, .ne (.a 9) 8, .ne (.a 9) 4, .ne (.a 9) 2, .ne (.a 9) 1, .ne (.a 9) 0, .le (.a 8) 2147483647, .ge (.a 8) (-2147483648), .is (.a 0) 2, .ne (.a 0) 1]) : CanonQ val :=
  canonLeaf h (by kernel_rfl)

theorem canonQ328 (val : Nat → Int) (h : Holds val [.ne (.a 6) 0, .is (.a 5) 0, .is (.a 4) 0, .is (.a 3) 8, .ne (.a 3) 0, .is (.a 9) 32, .ne (.a 9) 16, .ne (.a 9) 8, .ne (.a 9) 4, .ne (.a 9) 2, .ne (.a 9) 1, .ne (.a 9) 0, .le (.a 8) 2147483647, .ge (.a 8) (-2147483648), .is (.a 0) 2, .ne (.a 0) 1]) : CanonQ val :=
  canonLeaf h (by kernel_rfl)

theorem canonQ329 (val : Nat → Int) (h : Holds val [.is (.a 7) 1, .le (.a 6) 15, .ge (.a 6) 0, .is (.a 5) 5, .ne (.a 5) 0, .is (.a 4) 0, .is (.a 3) 8, .ne (.a 3) 0, .is (.a 9) 32, .ne (.a 9) 16, .ne (.a 9) 8, .ne (.a 9) 4, .ne (.a 9) 2, .ne (.a 9) 1, .ne (.a 9) 0, .le (.a 8) 2147483647, .ge (.a 8) (-2147483648), .is (.a 0) 2, .ne (.a 0) 1]) : CanonQ val :=
  canonLeaf h (by kernel_rfl)

theorem canonQ330 (val : Nat → Int) (h : Holds val [.is (.a 7) 2, .ne (.a 7) 1, .le (.a 6) 15, .ge (.a 6) 0, .is (.a 5) 5, .ne (.a 5) 0, .is (.a 4) 0, .is (.a 3) 8, .ne (.a 3) 0, .is (.a 9) 32, .ne (.a 9) 16, .ne (.a 9) 8, .ne (.a 9) 4, .ne (.a 9) 2, .ne (.a 9) 1, .ne (.a 9) 0, .le (.a 8) 2147483647, .ge (.a 8) (-2147483648), .is (.a 0) 2, .ne (.a 0) 1]) : CanonQ val :=
  canonLeaf h (by kernel_rfl)

theorem canonQ331 (val : Nat → Int) (h : Holds val [.is (.a 7) 4, .ne (.a 7) 2, .ne (.a 7) 1, .le (.a 6) 15, .ge (.a 6) 0, .is (.a 5) 5, .ne (.a 5) 0, .is (.a 4) 0, .is (.a 3) 8, .ne (.a 3) 0, .is (.a 9) 32, .ne (.a 9) 16, .ne (.a 9) 8, .ne (.a 9) 4, .ne (.a 9) 2, .ne (.a 9) 1, .ne (.a 9) 0, .le (.a 8) 2147483647, .ge (.a 8) (-2147483648), .is (.a 0) 2, .ne (.a 0) 1]) : CanonQ val :=
  canonLeaf h (by kernel_rfl)

theorem canonQ332 (val : Nat → Int) (h : Holds val [.is (.a 7) 8, .ne (.a 7) 4, .ne (.a 7) 2, .ne (.a 7) 1, .le (.a 6) 15, .ge (.a 6) 0, .is (.a 5) 5, .ne (.a 5) 0, .is (.a 4) 0, .is (.a 3) 8, .ne (.a 3) 0, .is (.a 9) 32, .ne (.a 9) 16, .ne (.a 9) 8, .ne (.a 9) 4, .ne (.a 9) 2, .ne (.a 9) 1, .ne (.a 9) 0, .le (.a 8) 2147483647, .ge (.a 8) (-2147483648), .is (.a 0) 2, .ne (.a 0) 1]) : CanonQ val :=
  canonLeaf h (by kernel_rfl)

theorem canonQ333 (val : Nat → Int) (h : Holds val [.ne (.a 7) 8, .ne (.a 7) 4, .ne (.a 7) 2, .ne (.a 7) 1, .le (.a 6) 15, .ge (.a 6) 0, .is (.a 5) 5, .ne (.a 5) 0, .is (.a 4) 0, .is (.a 3) 8, .ne (.a 3) 0, .is (.a 9) 32, .ne (.a 9) 16, .ne (.a 9) 8, .ne (.a 9) 4, .ne (.a 9) 2, .ne (.a 9) 1, .ne (.a 9) 0, .le (.a 8) 2147483647, .ge (.a 8) (-2147483648), .is (.a 0) 2, .ne (.a 0) 1]) : CanonQ val :=
  canonLeaf h (by kernel_rfl)

theorem canonQ334 (val : Nat → Int) (h : Holds val [.ge (.a 6) 16, .ge (.a 6) 0, .is (.a 5) 5, .ne (.a 5) 0, .is (.a 4) 0, .is (.a 3) 8, .ne (.a 3) 0, .is (.a 9) 32, .ne (.a 9) 16, .ne (.a 9) 8, .ne (.a 9) 4, .ne (.a 9) 2, .ne (.a 9) 1, .ne (.a 9) 0, .le (.a 8) 2147483647, .ge (.a 8) (-2147483648), .is (.a 0) 2, .ne (.a 0) 1]) : CanonQ val :=
  canonLeaf h (by kernel_rfl)

theorem canonQ335 (val : Nat → Int) (h : Holds val [.le (.a 6) (-1), .is (.a 5) 5, .ne (.a 5) 0, .is (.a 4) 0, .is (.a 3) 8, .ne (.a 3) 0, .is (.a 9) 32, .ne (.a 9) 16, .ne (.a 9) 8, .ne (.a 9) 4, .ne (.a 9) 2, .ne (.a 9) 1, .ne (.a 9) 0, .le (.a 8) 2147483647, .ge (.a 8) (-2147483648), .is (.a 0) 2, .ne (.a 0) 1]) : CanonQ val :=
  canonLeaf h (by kernel_rfl)

theorem canonQ336 (val : Nat → Int) (h : Holds val [.ne (.a 5) 5, .ne (.a 5) 0, .is (.a 4) 0, .is (.a 3) 8, .ne (.a 3) 0, .is (.a 9) 32, .ne (.a 9) 16, .ne (.a 9) 8, .ne (.a 9) 4, .ne (.a 9) 2, .ne (.a 9) 1, .ne (.a 9) 0, .le (.a 8) 2147483647, .ge (.a 8) (-2147483648), .is (.a 0) 2, .ne (.a 0) 1]) : CanonQ val :=
  canonLeaf h (by kernel_rfl)

theorem canonQ337 (val : Nat → Int) (h : Holds val [.ne (.a 4) 0, .is (.a 3) 8, .ne (.a 3) 0, .is (.a 9) 32, .ne (.a 9) 16, .ne (.a 9) 8, .ne (.a 9) 4, .ne (.a 9) 2, .ne (.a 9) 1, .ne (.a 9) 0, .le (.a 8) 2147483647, .ge (.a 8) (-2147483648), .is (.a 0) 2, .ne (.a 0) 1]) : CanonQ val :=
  canonLeaf h (by kernel_rfl)

theorem canonQ338 (val : Nat → Int) (h : Holds val [.is (.a 7) 0, .is (.a 6) 0, .is (.a 5) 0, .le (.a 4) 15, .ge (.a 4) 0, .is (.a 3) 5, .ne (.a 3) 8, .ne (.a 3) 0, .is (.a 9) 32, .ne (.a 9) 16, .ne (.a 9) 8, .ne (.a 9) 4, .ne (.a 9) 2, .ne (.a 9) 1, .ne (.a 9) 0, .le (.a 8) 2147483647, .ge (.a 8) (-2147483648), .is (.a 0) 2, .ne (.a 0) 1]) : CanonQ val :=
  canonLeaf h (by kernel_rfl)

theorem canonQ339 (val : Nat → Int) (h : Holds val [.ne (.a 7) 0, .is (.a 6) 0, .is (.a 5) 0, .le (.a 4) 15, .ge (.a 4) 0, .is (.a 3) 5, .ne (.a 3) 8, .ne (.a 3) 0, .is (.a 9) 32, .ne (.a 9) 16, .ne (.a 9) 8, .ne (.a 9) 4, .ne (.a 9) 2, .ne (.a 9) 1, .ne (.a 9) 0, .le (.a 8) 2147483647, .ge (.a 8) (-2147483648), .is (.a 0) 2, .ne (.a 0) 1]) : CanonQ val :=
  canonLeaf h (by kernel_rfl)

theorem canonQ340 (val : Nat → Int) (h : Holds val [.ne (.a 6) 0, .is (.a 5) 0, .le (.a 4) 15, .ge (.a 4) 0, .is (.a 3) 5, .ne (.a 3) 8, .ne (.a 3) 0, .is (.a 9) 32, .ne (.a 9) 16, .ne (.a 9) 8, .ne (.a 9) 4, .ne (.a 9) 2, .ne (.a 9) 1, .ne (.a 9) 0, .le (.a 8) 2147483647, .ge (.a 8) (-2147483648), .is (.a 0) 2, .ne (.a 0) 1]) : CanonQ val :=
  canonLeaf h (by kernel_rfl)

theorem canonQ341 (val : Nat → Int) (h : Holds val [.is (.a 4) 4, .is (.a 6) 4, .is (.a 7) 1, .le (.a 6) 15, .ge (.a 6) 0, .is (.a 5) 5, .ne (.a 5) 0, .le (.a 4) 15, .ge (.a 4) 0, .is (.a 3) 5, .ne (.a 3) 8, .ne (.a 3) 0, .is (.a 9) 32, .ne (.a 9) 16, .ne (.a 9) 8, .ne (.a 9) 4, .ne (.a 9) 2, .ne (.a 9) 1, .ne (.a 9) 0, .le (.a 8) 2147483647, .ge (.a 8) (-2147483648), .is (.a 0) 2, .ne (.a 0) 1]) : CanonQ val :=
  canonLeaf h (by kernel_rfl)

theorem canonQ342 (val : Nat → Int) (h : Holds val [.ne (.a 4) 4, .is (.a 6) 4, .is (.a 7) 1, .le (.a 6) 15, .ge (.a 6) 0, .is (.a 5) 5, .ne (.a 5) 0, .le (.a 4) 15, .ge (.a 4) 0, .is (.a 3) 5, .ne (.a 3) 8, .ne (.a 3) 0, .is (.a 9) 32, .ne (.a 9) 16, .ne (.a 9) 8, .ne (.a 9) 4, .ne (.a 9) 2, .ne (.a 9) 1, .ne (.a 9) 0, .le (.a 8) 2147483647, .ge (.a 8) (-2147483648), .is (.a 0) 2, .ne (.a 0) 1]) : CanonQ val :=
  canonLeaf h (by kernel_rfl)

theorem canonQ343 (val : Nat → Int) (h : Holds val [.ne (.a 6) 4, .is (.a 7) 1, .le (.a 6) 15, .ge (.a 6) 0, .is (.a 5) 5, .ne (.a 5) 0, .le (.a 4) 15, .ge (.a 4) 0, .is (.a 3) 5, .ne (.a 3) 8, .ne (.a 3) 0, .is (.a 9) 32, .ne (.a 9) 16, .ne (.a 9) 8, .ne (.a 9) 4, .ne (.a 9) 2, .ne (.a 9) 1, .ne (.a 9) 0, .le (.a 8) 2147483647, .ge (.a 8) (-2147483648), .is (.a 0) 2, .ne (.a 0) 1]) : CanonQ val :=
  canonLeaf h (by kernel_rfl)

theorem canonQ344 (val : Nat → Int) (h : Holds val [.is (.a 6) 4, .is (.a 7) 2, .ne (.a 7) 1, .le (.a 6) 15, .ge (.a 6) 0, .is (.a 5) 5, .ne (.a 5) 0, .le (.a 4) 15, .ge (.a 4) 0, .is (.a 3) 5, .ne (.a 3) 8, .ne (.a 3) 0, .is (.a 9) 32, .ne (.a 9) 16, .ne (.a 9) 8, .ne (.a 9) 4, .ne (.a 9) 2, .ne (.a 9) 1, .ne (.a 9) 0, .le (.a 8) 2147483647, .ge (.a 8) (-2147483648), .is (.a 0) 2, .ne (.a 0) 1]) : CanonQ val :=
  canonLeaf h (by kernel_rfl)

theorem canonQ345 (val : Nat → Int) (h : Holds val [.ne (.a 6) 4, .is (.a 7) 2, .ne (.a 7) 1, .le (.a 6) 15, .ge (.a 6) 0, .is (.a 5) 5, .ne (.a 5) 0, .le (.a 4) 15, .ge (.a 4) 0, .is (.a 3) 5, .ne (.a 3) 8, .ne (.a 3) 0, .is (.a 9) 32, .ne (.a 9) 16, .ne (.a 9) 8, .ne (.a 9) 4, .ne (.a 9) 2, .ne (.a 9) 1, .ne (.a 9) 0, .le (.a 8) 2147483647, .ge (.a 8) (-2147483648), .is (.a 0) 2, .ne (.a 0) 1]) : CanonQ val :=
  canonLeaf h (by kernel_rfl)

theorem canonQ346 (val : Nat → Int) (h : Holds val [.is (.a 6) 4, .is (.a 7) 4, .ne (.a 7) 2, .ne (.a 7) 1, .le (.a 6) 15, .ge (.a 6) 0, .is (.a 5) 5, .ne (.a 5) 0, .le (.a 4) 15, .ge (.a 4) 0, .is (.a 3) 5, .ne (.a 3) 8, .ne (.a 3) 0, .is (.a 9) 32, .ne (.a 9) 16, .ne (.a 9) 8, .ne (.a 9) 4, .ne (.a 9) 2, .ne (.a 9) 1, .ne (.a 9) 0, .le (.a 8) 2147483647, .ge (.a 8) (-2147483648), .is (.a 0) 2, .ne (.a 0) 1]) : CanonQ val :=
  canonLeaf h (by kernel_rfl)

theorem canonQ347 (val : Nat → Int) (h : Holds val [.ne (.a 6) 4, .is (.a 7) 4, .ne (.a 7) 2, .ne (.a 7) 1, .le (.a 6) 15, .ge (.a 6) 0, .is (.a 5) 5, .ne (.a 5) 0, .le (.a 4) 15, .ge (.a 4) 0, .is (.a 3) 5, .ne (.a 3) 8, .ne (.a 3) 0, .is (.a 9) 32, .ne (.a 9) 16, .ne (.a 9) 8, .ne (.a 9) 4, .ne (.a 9) 2, .ne (.a 9) 1, .ne (.a 9) 0, .le (.a 8) 2147483647, .ge (.a 8) (-2147483648), .is (.a 0) 2, .ne (.a 0) 1]) : CanonQ val :=
  canonLeaf h (by kernel_rfl)

theorem canonQ348 (val : Nat → Int) (h : Holds val [.is (.a 6) 4, .is (.a 7) 8, .ne (.a 7) 4, .ne (.a 7) 2, .ne (.a 7) 1, .le (.a 6) 15, .ge (.a 6) 0, .is (.a 5) 5, .ne (.a 5) 0, .le (.a 4) 15, .ge (.a 4) 0, .is (.a 3) 5, .ne (.a 3) 8, .ne (.a 3) 0, .is (.a 9) 32, .ne (.a 9) 16, .ne (.a 9) 8, .ne (.a 9) 4, .ne (.a 9) 2, .ne (.a 9) 1, .ne (.a 9) 0, .le (.a 8) 2147483647, .ge (.a 8) (-2147483648), .is (.a 0) 2, .ne (.a 0) 1]) : CanonQ val :=
  canonLeaf h (by kernel_rfl)

theorem canonQ349 (val : Nat → Int) (h : Holds val [.ne (.a 6) 4, .is (.a 7) 8, .ne (.a 7) 4, .ne (.a 7) 2, .ne (.a 7) 1, .le (.a 6) 15, .ge (.a 6) 0, .is (.a 5) 5, .ne (.a 5) 0, .le (.a 4) 15, .ge (.a 4) 0, .is (.a 3) 5, .ne (.a 3) 8, .ne (.a 3) 0, .is (.a 9) 32, .ne (.a 9) 16, .ne (.a 9) 8, .ne (.a 9) 4, .ne (.a 9) 2, .ne (.a 9) 1, .ne (.a 9) 0, .le (.a 8) 2147483647, .ge (.a 8) (-2147483648), .is (.a 0) 2, .ne (.a 0) 1]) : CanonQ val :=
  canonLeaf h (by kernel_rfl)

theorem canonQ350 (val : Nat → Int) (h : Holds val [.ne (.a 7) 8, .ne (.a 7) 4, .ne (.a 7) 2, .ne (.a 7) 1, .le (.a 6) 15, .ge (.a 6) 0, .is (.a 5) 5, .ne (.a 5) 0, .le (.a 4) 15, .ge (.a 4) 0, .is (.a 3) 5, .ne (.a 3) 8, .ne (.a 3) 0, .is (.a 9) 32, .ne (.a 9) 16, .ne (.a 9) 8, .ne (.a 9) 4, .ne (.a 9) 2, .ne (.a 9) 1, .ne (.a 9) 0, .le (.a 8) 2147483647, .ge (.a 8) (-2147483648), .is (.a 0) 2, .ne (.a 0) 1]) : CanonQ val :=
  canonLeaf h (by kernel_rfl)

theorem canonQ351 (val : Nat → Int) (h : Holds val [.ge (.a 6) 16, .ge (.a 6) 0, .is (.a 5) 5, .ne (.a 5) 0, .le (.a 4) 15, .ge (.a 4) 0, .is (.a 3) 5, .ne (.a 3) 8, .ne (.a 3) 0, .is (.a 9) 32, .ne (.a 9) 16, .ne (.a 9) 8, .ne (.a 9) 4, .ne (.a 9) 2, .ne (.a 9) 1, .ne (.a 9) 0, .le (.a 8) 2147483647, .ge (.a 8) (-2147483648), .is (.a 0) 2, .ne (.a 0) 1]) : CanonQ val :=
  canonLeaf h (by kernel_rfl)

theorem canonQ352 (val : Nat → Int) (h : Holds val [.le (.a 6) (-1), .is (.a 5) 5, .ne (.a 5) 0, .le (.a 4) 15, .ge (.a 4) 0, .is (.a 3) 5, .ne (.a 3) 8, .ne (.a 3) 0, .is (.a 9) 32, .ne (.a 9) 16, .ne (.a 9) 8, .ne (.a 9) 4, .ne (.a 9) 2, .ne (.a 9) 1, .ne (.a 9) 0, .le (.a 8) 2147483647, .ge (.a 8) (-2147483648), .is (.a 0) 2, .ne (.a 0) 1]) : CanonQ val :=
  canonLeaf h (by kernel_rfl)

theorem canonQ353 (val : Nat → Int) (h : Holds val [.ne (.a 5) 5, .ne (.a 5) 0, .le (.a 4) 15, .ge (.a 4) 0, .is (.a 3) 5, .ne (.a 3) 8, .ne (.a 3) 0, .is (.a 9) 32, .ne (.a 9) 16, .ne (.a 9) 8, .ne (.a 9) 4, .ne (.a 9) 2, .ne (.a 9) 1, .ne (.a 9) 0, .le (.a 8) 2147483647, .ge (.a 8) (-2147483648), .is (.a 0) 2, .ne (.a 0) 1]) : CanonQ val :=
  canonLeaf h (by kernel_rfl)

theorem canonQ354 (val : Nat → Int) (h : Holds val [.ge (.a 4) 16, .ge (.a 4) 0, .is (.a 3) 5, .ne (.a 3) 8, .ne (.a 3) 0, .is (.a 9) 32, .ne (.a 9) 16, .ne (.a 9) 8, .ne (.a 9) 4, .ne (.a 9) 2, .ne (.a 9) 1, .ne (.a 9) 0, .le (.a 8) 2147483647, .ge (.a 8) (-2147483648), .is (.a 0) 2, .ne (.a 0) 1]) : CanonQ val :=
  canonLeaf h (by kernel_rfl)

theorem canonQ355 (val : Nat → Int) (h : Holds val [.le (.a 4) (-1), .is (.a 3) 5, .ne (.a 3) 8, .ne (.a 3) 0, .is (.a 9) 32, .ne (.a 9) 16, .ne (.a 9) 8, .ne (.a 9) 4, .ne (.a 9) 2, .ne (.a 9) 1, .ne (.a 9) 0, .le (.a 8) 2147483647, .ge (.a 8) (-2147483648), .is (.a 0) 2, .ne (.a 0) 1]) : CanonQ val :=
  canonLeaf h (by kernel_rfl)

theorem canonQ356 (val : Nat → Int) (h : Holds val [.ne (.a 3) 5, .ne (.a 3) 8, .ne (.a 3) 0, .is (.a 9) 32, .ne (.a 9) 16, .ne (.a 9) 8, .ne (.a 9) 4, .ne (.a 9) 2, .ne (.a 9) 1, .ne (.a 9) 0, .le (.a 8) 2147483647, .ge (.a 8) (-2147483648), .is (.a 0) 2, .ne (.a 0) 1]) : CanonQ val :=
  canonLeaf h (by kernel_rfl)

theorem canonQ357 (val : Nat → Int) (h : Holds val [.ne (.a 9) 32, .ne (.a 9) 16, .ne (.a 9) 8, .ne (.a 9) 4, .ne (.a 9) 2, .ne (.a 9) 1, .ne (.a 9) 0, .le (.a 8) 2147483647, .ge (.a 8) (-2147483648), .is (.a 0) 2, .ne (.a 0) 1]) : CanonQ val :=
  canonLeaf h (by kernel_rfl)

theorem canonQ358 (val : Nat → Int) (h : Holds val [.is (.a 0) 3, .ne (.a 0) 2, .ne (.a 0) 1]) : CanonQ val :=
  canonLeaf h (by kernel_rfl)

theorem canonQ359 (val : Nat → Int) (h : Holds val [.le (.a 10) (-2147483649), .is (.a 0) 4, .ne (.a 0) 3, .ne (.a 0) 2, .ne (.a 0) 1]) : CanonQ val :=
  canonLeaf h (by kernel_rfl)

theorem canonQ360 (val : Nat → Int) (h : Holds val [.ge (.a 10) 2147483648, .ge (.a 10) (-2147483648), .is (.a 0) 4, .ne (.a 0) 3, .ne (.a 0) 2, .ne (.a 0) 1]) : CanonQ val :=
  canonLeaf h (by kernel_rfl)

theorem canonQ361 (val : Nat → Int) (h : Holds val [.le (.a 10) 2147483647, .ge (.a 10) (-2147483648), .is (.a 0) 4, .ne (.a 0) 3, .ne (.a 0) 2, .ne (.a 0) 1]) : CanonQ val :=
  canonLeaf h (by kernel_rfl)

theorem canonQ362 (val : Nat → Int) (h : Holds val [.ne (.a 0) 4, .ne (.a 0) 3, .ne (.a 0) 2, .ne (.a 0) 1]) : CanonQ val :=
  canonLeaf h (by kernel_rfl)

end Go.Proofs.Ytclhjdddakmafaa.Tab
