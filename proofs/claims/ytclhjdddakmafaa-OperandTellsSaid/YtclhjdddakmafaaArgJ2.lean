/-
  Ways through the code, part 2.
-/
import Derived.Test.YtclhjdddakmafaaArgJH
namespace Go.Proofs.Ytclhjdddakmafaa.Tab
open Go.Sim
set_option maxRecDepth 100000

theorem argJ244 (val : Nat → Int) (h : Holds val [.ne (.a 4) 0, .is (.a 3) 8, .ne (.a 3) 0, .is (.a 9) 8, .ne (.a 9) 4, .ne (.a 9) 2, .ne (.a 9) 1, .ne (.a 9) 0, .le (.a 8) 2147483647, .ge (.a 8) (-2147483648), .is (.a 0) 2, .ne (.a 0) 1]) : ArgJ val :=
  leaf h [(.c 0), (.c 0), (.c 0), (.c 0), (.c 0), (.c 0), (.c 0), (.c 0), (.c 0), (.c 0), (.c 0), (.c 2), (.c 0)] rfl (by kernel_rfl)

theorem argJ245 (val : Nat → Int) (h : Holds val [.is (.a 7) 0, .is (.a 6) 0, .is (.a 5) 0, .le (.a 4) 15, .ge (.a 4) 0, .is (.a 3) 5, .ne (.a 3) 8, .ne (.a 3) 0, .is (.a 9) 8, .ne (.a 9) 4, .ne (.a 9) 2, .ne (.a 9) 1, .ne (.a 9) 0, .le (.a 8) 2147483647, .ge (.a 8) (-2147483648), .is (.a 0) 2, .ne (.a 0) 1]) : ArgJ val :=
  leaf h [(.a 0), (.c 0), (.c 0), (.a 3), (.a 4), (.a 5), (.a 6), (.a 7), (.a 8), (.a 9), (.c 0), (.c 0), (.a 9)] rfl (by kernel_rfl)

theorem argJ246 (val : Nat → Int) (h : Holds val [.ne (.a 7) 0, .is (.a 6) 0, .is (.a 5) 0, .le (.a 4) 15, .ge (.a 4) 0, .is (.a 3) 5, .ne (.a 3) 8, .ne (.a 3) 0, .is (.a 9) 8, .ne (.a 9) 4, .ne (.a 9) 2, .ne (.a 9) 1, .ne (.a 9) 0, .le (.a 8) 2147483647, .ge (.a 8) (-2147483648), .is (.a 0) 2, .ne (.a 0) 1]) : ArgJ val :=
  leaf h [(.c 0), (.c 0), (.c 0), (.c 0), (.c 0), (.c 0), (.c 0), (.c 0), (.c 0), (.c 0), (.c 0), (.c 2), (.c 0)] rfl (by kernel_rfl)

theorem argJ247 (val : Nat → Int) (h : Holds val [.ne (.a 6) 0, .is (.a 5) 0, .le (.a 4) 15, .ge (.a 4) 0, .is (.a 3) 5, .ne (.a 3) 8, .ne (.a 3) 0, .is (.a 9) 8, .ne (.a 9) 4, .ne (.a 9) 2, .ne (.a 9) 1, .ne (.a 9) 0, .le (.a 8) 2147483647, .ge (.a 8) (-2147483648), .is (.a 0) 2, .ne (.a 0) 1]) : ArgJ val :=
  leaf h [(.c 0), (.c 0), (.c 0), (.c 0), (.c 0), (.c 0), (.c 0), (.c 0), (.c 0), (.c 0), (.c 0), (.c 2), (.c 0)] rfl (by kernel_rfl)

theorem argJ248 (val : Nat → Int) (h : Holds val [.is (.a 4) 4, .is (.a 6) 4, .is (.a 7) 1, .le (.a 6) 15, .ge (.a 6) 0, .is (.a 5) 5, .ne (.a 5) 0, .le (.a 4) 15, .ge (.a 4) 0, .is (.a 3) 5, .ne (.a 3) 8, .ne (.a 3) 0, .is (.a 9) 8, .ne (.a 9) 4, .ne (.a 9) 2, .ne (.a 9) 1, .ne (.a 9) 0, .le (.a 8) 2147483647, .ge (.a 8) (-2147483648), .is (.a 0) 2, .ne (.a 0) 1]) : ArgJ val :=
  leaf h [(.c 0), (.c 0), (.c 0), (.c 0), (.c 0), (.c 0), (.c 0), (.c 0), (.c 0), (.c 0), (.c 0), (.c 2), (.c 0)] rfl (by kernel_rfl)

theorem argJ249 (val : Nat → Int) (h : Holds val [.ne (.a 4) 4, .is (.a 6) 4, .is (.a 7) 1, .le (.a 6) 15, .ge (.a 6) 0, .is (.a 5) 5, .ne (.a 5) 0, .le (.a 4) 15, .ge (.a 4) 0, .is (.a 3) 5, .ne (.a 3) 8, .ne (.a 3) 0, .is (.a 9) 8, .ne (.a 9) 4, .ne (.a 9) 2, .ne (.a 9) 1, .ne (.a 9) 0, .le (.a 8) 2147483647, .ge (.a 8) (-2147483648), .is (.a 0) 2, .ne (.a 0) 1]) : ArgJ val :=
  leaf h [(.a 0), (.c 0), (.c 0), (.a 5), (.a 6), (.a 3), (.a 4), (.a 7), (.a 8), (.a 9), (.c 0), (.c 0), (.a 9)] rfl (by kernel_rfl)

theorem argJ250 (val : Nat → Int) (h : Holds val [.ne (.a 6) 4, .is (.a 7) 1, .le (.a 6) 15, .ge (.a 6) 0, .is (.a 5) 5, .ne (.a 5) 0, .le (.a 4) 15, .ge (.a 4) 0, .is (.a 3) 5, .ne (.a 3) 8, .ne (.a 3) 0, .is (.a 9) 8, .ne (.a 9) 4, .ne (.a 9) 2, .ne (.a 9) 1, .ne (.a 9) 0, .le (.a 8) 2147483647, .ge (.a 8) (-2147483648), .is (.a 0) 2, .ne (.a 0) 1]) : ArgJ val :=
  leaf h [(.a 0), (.c 0), (.c 0), (.a 3), (.a 4), (.a 5), (.a 6), (.a 7), (.a 8), (.a 9), (.c 0), (.c 0), (.a 9)] rfl (by kernel_rfl)

theorem argJ251 (val : Nat → Int) (h : Holds val [.is (.a 6) 4, .is (.a 7) 2, .ne (.a 7) 1, .le (.a 6) 15, .ge (.a 6) 0, .is (.a 5) 5, .ne (.a 5) 0, .le (.a 4) 15, .ge (.a 4) 0, .is (.a 3) 5, .ne (.a 3) 8, .ne (.a 3) 0, .is (.a 9) 8, .ne (.a 9) 4, .ne (.a 9) 2, .ne (.a 9) 1, .ne (.a 9) 0, .le (.a 8) 2147483647, .ge (.a 8) (-2147483648), .is (.a 0) 2, .ne (.a 0) 1]) : ArgJ val :=
  leaf h [(.c 0), (.c 0), (.c 0), (.c 0), (.c 0), (.c 0), (.c 0), (.c 0), (.c 0), (.c 0), (.c 0), (.c 2), (.c 0)] rfl (by kernel_rfl)

theorem argJ252 (val : Nat → Int) (h : Holds val [.ne (.a 6) 4, .is (.a 7) 2, .ne (.a 7) 1, .le (.a 6) 15, .ge (.a 6) 0, .is (.a 5) 5, .ne (.a 5) 0, .le (.a 4) 15, .ge (.a 4) 0, .is (.a 3) 5, .ne (.a 3) 8, .ne (.a 3) 0, .is (.a 9) 8, .ne (.a 9) 4, .ne (.a 9) 2, .ne (.a 9) 1, .ne (.a 9) 0, .le (.a 8) 2147483647, .ge (.a 8) (-2147483648), .is (.a 0) 2, .ne (.a 0) 1]) : ArgJ val :=
  leaf h [(.a 0), (.c 0), (.c 0), (.a 3), (.a 4), (.a 5), (.a 6), (.a 7), (.a 8), (.a 9), (.c 0), (.c 0), (.a 9)] rfl (by kernel_rfl)

theorem argJ253 (val : Nat → Int) (h : Holds val [.is (.a 6) 4, .is (.a 7) 4, .ne (.a 7) 2, .ne (.a 7) 1, .le (.a 6) 15, .ge (.a 6) 0, .is (.a 5) 5, .ne (.a 5) 0, .le (.a 4) 15, .ge (.a 4) 0, .is (.a 3) 5, .ne (.a 3) 8, .ne (.a 3) 0, .is (.a 9) 8, .ne (.a 9) 4, .ne (.a 9) 2, .ne (.a 9) 1, .ne (.a 9) 0, .le (.a 8) 2147483647, .ge (.a 8) (-2147483648), .is (.a 0) 2, .ne (.a 0) 1]) : ArgJ val :=
  leaf h [(.c 0), (.c 0), (.c 0), (.c 0), (.c 0), (.c 0), (.c 0), (.c 0), (.c 0), (.c 0), (.c 0), (.c 2), (.c 0)] rfl (by kernel_rfl)

theorem argJ254 (val : Nat → Int) (h : Holds val [.ne (.a 6) 4, .is (.a 7) 4, .ne (.a 7) 2, .ne (.a 7) 1, .le (.a 6) 15, .ge (.a 6) 0, .is (.a 5) 5, .ne (.a 5) 0, .le (.a 4) 15, .ge (.a 4) 0, .is (.a 3) 5, .ne (.a 3) 8, .ne (.a 3) 0, .is (.a 9) 8, .ne (.a 9) 4, .ne (.a 9) 2, .ne (.a 9) 1, .ne (.a 9) 0, .le (.a 8) 2147483647, .ge (.a 8) (-2147483648), .is (.a 0) 2, .ne (.a 0) 1]) : ArgJ val :=
  leaf h [(.a 0), (.c 0), (.c 0), (.a 3), (.a 4), (.a 5), (.a 6), (.a 7), (.a 8), (.a 9), (.c 0), (.c 0), (.a 9)] rfl (by kernel_rfl)

theorem argJ255 (val : Nat → Int) (h : Holds val [.is (.a 6) 4, .is (.a 7) 8, .ne (.a 7) 4, .ne (.a 7) 2, .ne (.a 7) 1, .le (.a 6) 15, .ge (.a 6) 0, .is (.a 5) 5, .ne (.a 5) 0, .le (.a 4) 15, .ge (.a 4) 0, .is (.a 3) 5, .ne (.a 3) 8, .ne (.a 3) 0, .is (.a 9) 8, .ne (.a 9) 4, .ne (.a 9) 2, .ne (.a 9) 1, .ne (.a 9) 0, .le (.a 8) 2147483647, .ge (.a 8) (-2147483648), .is (.a 0) 2, .ne (.a 0) 1]) : ArgJ val :=
  leaf h [(.c 0), (.c 0), (.c 0), (.c 0), (.c 0), (.c 0), (.c 0), (.c 0), (.c 0), (.c 0), (.c 0), (.c 2), (.c 0)] rfl (by kernel_rfl)

theorem argJ256 (val : Nat → Int) (h : Holds val [.ne (.a 6) 4, .is (.a 7) 8, .ne (.a 7) 4, .ne (.a 7) 2, .ne (.a 7) 1, .le (.a 6) 15, .ge (.a 6) 0, .is (.a 5) 5, .ne (.a 5) 0, .le (.a 4) 15, .ge (.a 4) 0, .is (.a 3) 5, .ne (.a 3) 8, .ne (.a 3) 0, .is (.a 9) 8, .ne (.a 9) 4, .ne (.a 9) 2, .ne (.a 9) 1, .ne (.a 9) 0, .le (.a 8) 2147483647, .ge (.a 8) (-2147483648), .is (.a 0) 2, .ne (.a 0) 1]) : ArgJ val :=
  leaf h [(.a 0), (.c 0), (.c 0), (.a 3), (.a 4), (.a 5), (.a 6), (.a 7), (.a 8), (.a 9), (.c 0), (.c 0), (.a 9)] rfl (by kernel_rfl)

theorem argJ257 (val : Nat → Int) (h : Holds val [.ne (.a 7) 8, .ne (.a 7) 4, .ne (.a 7) 2, .ne (.a 7) 1, .le (.a 6) 15, .ge (.a 6) 0, .is (.a 5) 5, .ne (.a 5) 0, .le (.a 4) 15, .ge (.a 4) 0, .is (.a 3) 5, .ne (.a 3) 8, .ne (.a 3) 0, .is (.a 9) 8, .ne (.a 9) 4, .ne (.a 9) 2, .ne (.a 9) 1, .ne (.a 9) 0, .le (.a 8) 2147483647, .ge (.a 8) (-2147483648), .is (.a 0) 2, .ne (.a 0) 1]) : ArgJ val :=
  leaf h [(.c 0), (.c 0), (.c 0), (.c 0), (.c 0), (.c 0), (.c 0), (.c 0), (.c 0), (.c 0), (.c 0), (.c 2), (.c 0)] rfl (by kernel_rfl)

theorem argJ258 (val : Nat → Int) (h : Holds val [.ge (.a 6) 16, .ge (.a 6) 0, .is (.a 5) 5, .ne (.a 5) 0, .le (.a 4) 15, .ge (.a 4) 0, .is (.a 3) 5, .ne (.a 3) 8, .ne (.a 3) 0, .is (.a 9) 8, .ne (.a 9) 4, .ne (.a 9) 2, .ne (.a 9) 1, .ne (.a 9) 0, .le (.a 8) 2147483647, .ge (.a 8) (-2147483648), .is (.a 0) 2, .ne (.a 0) 1]) : ArgJ val :=
  leaf h [(.c 0), (.c 0), (.c 0), (.c 0), (.c 0), (.c 0), (.c 0), (.c 0), (.c 0), (.c 0), (.c 0), (.c 2), (.c 0)] rfl (by kernel_rfl)

theorem argJ259 (val : Nat → Int) (h : Holds val [.le (.a 6) (-1), .is (.a 5) 5, .ne (.a 5) 0, .le (.a 4) 15, .ge (.a 4) 0, .is (.a 3) 5, .ne (.a 3) 8, .ne (.a 3) 0, .is (.a 9) 8, .ne (.a 9) 4, .ne (.a 9) 2, .ne (.a 9) 1, .ne (.a 9) 0, .le (.a 8) 2147483647, .ge (.a 8) (-2147483648), .is (.a 0) 2, .ne (.a 0) 1]) : ArgJ val :=
  leaf h [(.c 0), (.c 0), (.c 0), (.c 0), (.c 0), (.c 0), (.c 0), (.c 0), (.c 0), (.c 0), (.c 0), (.c 2), (.c 0)] rfl (by kernel_rfl)

theorem argJ260 (val : Nat → Int) (h : Holds val [.ne (.a 5) 5, .ne (.a 5) 0, .le (.a 4) 15, .ge (.a 4) 0, .is (.a 3) 5, .ne (.a 3) 8, .ne (.a 3) 0, .is (.a 9) 8, .ne (.a 9) 4, .ne (.a 9) 2, .ne (.a 9) 1, .ne (.a 9) 0, .le (.a 8) 2147483647, .ge (.a 8) (-2147483648), .is (.a 0) 2, .ne (.a 0) 1]) : ArgJ val :=
  leaf h [(.c 0), (.c 0), (.c 0), (.c 0), (.c 0), (.c 0), (.c 0), (.c 0), (.c 0), (.c 0), (.c 0), (.c 2), (.c 0)] rfl (by kernel_rfl)

theorem argJ261 (val : Nat → Int) (h : Holds val [.ge (.a 4) 16, .ge (.a 4) 0, .is (.a 3) 5, .ne (.a 3) 8, .ne (.a 3) 0, .is (.a 9) 8, .ne (.a 9) 4, .ne (.a 9) 2, .ne (.a 9) 1, .ne (.a 9) 0, .le (.a 8) 2147483647, .ge (.a 8) (-2147483648), .is (.a 0) 2, .ne (.a 0) 1]) : ArgJ val :=
  leaf h [(.c 0), (.c 0), (.c 0), (.c 0), (.c 0), (.c 0), (.c 0), (.c 0), (.c 0), (.c 0), (.c 0), (.c 2), (.c 0)] rfl (by kernel_rfl)

theorem argJ262 (val : Nat → Int) (h : Holds val [.le (.a 4) (-1), .is (.a 3) 5, .ne (.a 3) 8, .ne (.a 3) 0, .is (.a 9) 8, .ne (.a 9) 4, .ne (.a 9) 2, .ne (.a 9) 1, .ne (.a 9) 0, .le (.a 8) 2147483647, .ge (.a 8) (-2147483648), .is (.a 0) 2, .ne (.a 0) 1]) : ArgJ val :=
  leaf h [(.c 0), (.c 0), (.c 0), (.c 0), (.c 0), (.c 0), (.c 0), (.c 0), (.c 0), (.c 0), (.c 0), (.c 2), (.c 0)] rfl (by kernel_rfl)

theorem argJ263 (val : Nat → Int) (h : Holds val [.ne (.a 3) 5, .ne (.a 3) 8, .ne (.a 3) 0, .is (.a 9) 8, .ne (.a 9) 4, .ne (.a 9) 2, .ne (.a 9) 1, .ne (.a 9) 0, .le (.a 8) 2147483647, .ge (.a 8) (-2147483648), .is (.a 0) 2, .ne (.a 0) 1]) : ArgJ val :=
  leaf h [(.c 0), (.c 0), (.c 0), (.c 0), (.c 0), (.c 0), (.c 0), (.c 0), (.c 0), (.c 0), (.c 0), (.c 2), (.c 0)] rfl (by kernel_rfl)

theorem argJ264 (val : Nat → Int) (h : Holds val [.is (.a 7) 0, .is (.a 6) 0, .is (.a 5) 0, .is (.a 4) 0, .is (.a 3) 0, .is (.a 9) 16, .ne (.a 9) 8, .ne (.a 9) 4, .ne (.a 9) 2, .ne (.a 9) 1, .ne (.a 9) 0, .le (.a 8) 2147483647, .ge (.a 8) (-2147483648), .is (.a 0) 2, .ne (.a 0) 1]) : ArgJ val :=
  leaf h [(.a 0), (.c 0), (.c 0), (.a 3), (.a 4), (.a 5), (.a 6), (.a 7), (.a 8), (.a 9), (.c 0), (.c 0), (.a 9)] rfl (by kernel_rfl)

theorem argJ265 (val : Nat → Int) (h : Holds val [.ne (.a 7) 0, .is (.a 6) 0, .is (.a 5) 0, .is (.a 4) 0, .is (.a 3) 0, .is (.a 9) 16, .ne (.a 9) 8, .ne (.a 9) 4, .ne (.a 9) 2, .ne (.a 9) 1, .ne (.a 9) 0, .le (.a 8) 2147483647, .ge (.a 8) (-2147483648), .is (.a 0) 2, .ne (.a 0) 1]) : ArgJ val :=
  leaf h [(.c 0), (.c 0), (.c 0), (.c 0), (.c 0), (.c 0), (.c 0), (.c 0), (.c 0), (.c 0), (.c 0), (.c 2), (.c 0)] rfl (by kernel_rfl)

theorem argJ266 (val : Nat → Int) (h : Holds val [.ne (.a 6) 0, .is (.a 5) 0, .is (.a 4) 0, .is (.a 3) 0, .is (.a 9) 16, .ne (.a 9) 8, .ne (.a 9) 4, .ne (.a 9) 2, .ne (.a 9) 1, .ne (.a 9) 0, .le (.a 8) 2147483647, .ge (.a 8) (-2147483648), .is (.a 0) 2, .ne (.a 0) 1]) : ArgJ val :=
  leaf h [(.c 0), (.c 0), (.c 0), (.c 0), (.c 0), (.c 0), (.c 0), (.c 0), (.c 0), (.c 0), (.c 0), (.c 2), (.c 0)] rfl (by kernel_rfl)

theorem argJ267 (val : Nat → Int) (h : Holds val [.is (.a 6) 4, .is (.a 7) 1, .le (.a 6) 15, .ge (.a 6) 0, .is (.a 5) 5, .ne (.a 5) 0, .is (.a 4) 0, .is (.a 3) 0, .is (.a 9) 16, .ne (.a 9) 8, .ne (.a 9) 4, .ne (.a 9) 2, .ne (.a 9) 1, .ne (.a 9) 0, .le (.a 8) 2147483647, .ge (.a 8) (-2147483648), .is (.a 0) 2, .ne (.a 0) 1]) : ArgJ val :=
  leaf h [(.a 0), (.c 0), (.c 0), (.a 5), (.a 6), (.c 0), (.c 0), (.c 0), (.a 8), (.a 9), (.c 0), (.c 0), (.a 9)] rfl (by kernel_rfl)

theorem argJ268 (val : Nat → Int) (h : Holds val [.ne (.a 6) 4, .is (.a 7) 1, .le (.a 6) 15, .ge (.a 6) 0, .is (.a 5) 5, .ne (.a 5) 0, .is (.a 4) 0, .is (.a 3) 0, .is (.a 9) 16, .ne (.a 9) 8, .ne (.a 9) 4, .ne (.a 9) 2, .ne (.a 9) 1, .ne (.a 9) 0, .le (.a 8) 2147483647, .ge (.a 8) (-2147483648), .is (.a 0) 2, .ne (.a 0) 1]) : ArgJ val :=
  leaf h [(.a 0), (.c 0), (.c 0), (.a 5), (.a 6), (.c 0), (.c 0), (.c 0), (.a 8), (.a 9), (.c 0), (.c 0), (.a 9)] rfl (by kernel_rfl)

theorem argJ269 (val : Nat → Int) (h : Holds val [.is (.a 6) 4, .is (.a 7) 2, .ne (.a 7) 1, .le (.a 6) 15, .ge (.a 6) 0, .is (.a 5) 5, .ne (.a 5) 0, .is (.a 4) 0, .is (.a 3) 0, .is (.a 9) 16, .ne (.a 9) 8, .ne (.a 9) 4, .ne (.a 9) 2, .ne (.a 9) 1, .ne (.a 9) 0, .le (.a 8) 2147483647, .ge (.a 8) (-2147483648), .is (.a 0) 2, .ne (.a 0) 1]) : ArgJ val :=
  leaf h [(.c 0), (.c 0), (.c 0), (.c 0), (.c 0), (.c 0), (.c 0), (.c 0), (.c 0), (.c 0), (.c 0), (.c 2), (.c 0)] rfl (by kernel_rfl)

theorem argJ270 (val : Nat → Int) (h : Holds val [.ne (.a 6) 4, .is (.a 7) 2, .ne (.a 7) 1, .le (.a 6) 15, .ge (.a 6) 0, .is (.a 5) 5, .ne (.a 5) 0, .is (.a 4) 0, .is (.a 3) 0, .is (.a 9) 16, .ne (.a 9) 8, .ne (.a 9) 4, .ne (.a 9) 2, .ne (.a 9) 1, .ne (.a 9) 0, .le (.a 8) 2147483647, .ge (.a 8) (-2147483648), .is (.a 0) 2, .ne (.a 0) 1]) : ArgJ val :=
  leaf h [(.a 0), (.c 0), (.c 0), (.a 3), (.a 4), (.a 5), (.a 6), (.a 7), (.a 8), (.a 9), (.c 0), (.c 0), (.a 9)] rfl (by kernel_rfl)

theorem argJ271 (val : Nat → Int) (h : Holds val [.is (.a 6) 4, .is (.a 7) 4, .ne (.a 7) 2, .ne (.a 7) 1, .le (.a 6) 15, .ge (.a 6) 0, .is (.a 5) 5, .ne (.a 5) 0, .is (.a 4) 0, .is (.a 3) 0, .is (.a 9) 16, .ne (.a 9) 8, .ne (.a 9) 4, .ne (.a 9) 2, .ne (.a 9) 1, .ne (.a 9) 0, .le (.a 8) 2147483647, .ge (.a 8) (-2147483648), .is (.a 0) 2, .ne (.a 0) 1]) : ArgJ val :=
  leaf h [(.c 0), (.c 0), (.c 0), (.c 0), (.c 0), (.c 0), (.c 0), (.c 0), (.c 0), (.c 0), (.c 0), (.c 2), (.c 0)] rfl (by kernel_rfl)

theorem argJ272 (val : Nat → Int) (h : Holds val [.ne (.a 6) 4, .is (.a 7) 4, .ne (.a 7) 2, .ne (.a 7) 1, .le (.a 6) 15, .ge (.a 6) 0, .is (.a 5) 5, .ne (.a 5) 0, .is (.a 4) 0, .is (.a 3) 0, .is (.a 9) 16, .ne (.a 9) 8, .ne (.a 9) 4, .ne (.a 9) 2, .ne (.a 9) 1, .ne (.a 9) 0, .le (.a 8) 2147483647, .ge (.a 8) (-2147483648), .is (.a 0) 2, .ne (.a 0) 1]) : ArgJ val :=
  leaf h [(.a 0), (.c 0), (.c 0), (.a 3), (.a 4), (.a 5), (.a 6), (.a 7), (.a 8), (.a 9), (.c 0), (.c 0), (.a 9)] rfl (by kernel_rfl)

theorem argJ273 (val : Nat → Int) (h : Holds val [.is (.a 6) 4, .is (.a 7) 8, .ne (.a 7) 4, .ne (.a 7) 2, .ne (.a 7) 1, .le (.a 6) 15, .ge (.a 6) 0, .is (.a 5) 5, .ne (.a 5) 0, .is (.a 4) 0, .is (.a 3) 0, .is (.a 9) 16, .ne (.a 9) 8, .ne (.a 9) 4, .ne (.a 9) 2, .ne (.a 9) 1, .ne (.a 9) 0, .le (.a 8) 2147483647, .ge (.a 8) (-2147483648), .is (.a 0) 2, .ne (.a 0) 1]) : ArgJ val :=
  leaf h [(.c 0), (.c 0), (.c 0), (.c 0), (.c 0), (.c 0), (.c 0), (.c 0), (.c 0), (.c 0), (.c 0), (.c 2), (.c 0)] rfl (by kernel_rfl)

theorem argJ274 (val : Nat → Int) (h : Holds val [.ne (.a 6) 4, .is (.a 7) 8, .ne (.a 7) 4, .ne (.a 7) 2, .ne (.a 7) 1, .le (.a 6) 15, .ge (.a 6) 0, .is (.a 5) 5, .ne (.a 5) 0, .is (.a 4) 0, .is (.a 3) 0, .is (.a 9) 16, .ne (.a 9) 8, .ne (.a 9) 4, .ne (.a 9) 2, .ne (.a 9) 1, .ne (.a 9) 0, .le (.a 8) 2147483647, .ge (.a 8) (-2147483648), .is (.a 0) 2, .ne (.a 0) 1]) : ArgJ val :=
  leaf h [(.a 0), (.c 0), (.c 0), (.a 3), (.a 4), (.a 5), (.a 6), (.a 7), (.a 8), (.a 9), (.c 0), (.c 0), (.a 9)] rfl (by kernel_rfl)

theorem argJ275 (val : Nat → Int) (h : Holds val [.ne (.a 7) 8, .ne (.a 7) 4, .ne (.a 7) 2, .ne (.a 7) 1, .le (.a 6) 15, .ge (.a 6) 0, .is (.a 5) 5, .ne (.a 5) 0, .is (.a 4) 0, .is (.a 3) 0, .is (.a 9) 16, .ne (.a 9) 8, .ne (.a 9) 4, .ne (.a 9) 2, .ne (.a 9) 1, .ne (.a 9) 0, .le (.a 8) 2147483647, .ge (.a 8) (-2147483648), .is (.a 0) 2, .ne (.a 0) 1]) : ArgJ val :=
  leaf h [(.c 0), (.c 0), (.c 0), (.c 0), (.c 0), (.c 0), (.c 0), (.c 0), (.c 0), (.c 0), (.c 0), (.c 2), (.c 0)] rfl (by kernel_rfl)

theorem argJ276 (val : Nat → Int) (h : Holds val [.ge (.a 6) 16, .ge (.a 6) 0, .is (.a 5) 5, .ne (.a 5) 0, .is (.a 4) 0, .is (.a 3) 0, .is (.a 9) 16, .ne (.a 9) 8, .ne (.a 9) 4, .ne (.a 9) 2, .ne (.a 9) 1, .ne (.a 9) 0, .le (.a 8) 2147483647, .ge (.a 8) (-2147483648), .is (.a 0) 2, .ne (.a 0) 1]) : ArgJ val :=
  leaf h [(.c 0), (.c 0), (.c 0), (.c 0), (.c 0), (.c 0), (.c 0), (.c 0), (.c 0), (.c 0), (.c 0), (.c 2), (.c 0)] rfl (by kernel_rfl)

theorem argJ277 (val : Nat → Int) (h : Holds val [.le (.a 6) (-1), .is (.a 5) 5, .ne (.a 5) 0, .is (.a 4) 0, .is (.a 3) 0, .is (.a 9) 16, .ne (.a 9) 8, .ne (.a 9) 4, .ne (.a 9) 2, .ne (.a 9) 1, .ne (.a 9) 0, .le (.a 8) 2147483647, .ge (.a 8) (-2147483648), .is (.a 0) 2, .ne (.a 0) 1]) : ArgJ val :=
  leaf h [(.c 0), (.c 0), (.c 0), (.c 0), (.c 0), (.c 0), (.c 0), (.c 0), (.c 0), (.c 0), (.c 0), (.c 2), (.c 0)] rfl (by kernel_rfl)

theorem argJ278 (val : Nat → Int) (h : Holds val [.ne (.a 5) 5, .ne (.a 5) 0, .is (.a 4) 0, .is (.a 3) 0, .is (.a 9) 16, .ne (.a 9) 8, .ne (.a 9) 4, .ne (.a 9) 2, .ne (.a 9) 1, .ne (.a 9) 0, .le (.a 8) 2147483647, .ge (.a 8) (-2147483648), .is (.a 0) 2, .ne (.a 0) 1]) : ArgJ val :=
  leaf h [(.c 0), (.c 0), (.c 0), (.c 0), (.c 0), (.c 0), (.c 0), (.c 0), (.c 0), (.c 0), (.c 0), (.c 2), (.c 0)] rfl (by kernel_rfl)

theorem argJ279 (val : Nat → Int) (h : Holds val [.ne (.a 4) 0, .is (.a 3) 0, .is (.a 9) 16, .ne (.a 9) 8, .ne (.a 9) 4, .ne (.a 9) 2, .ne (.a 9) 1, .ne (.a 9) 0, .le (.a 8) 2147483647, .ge (.a 8) (-2147483648), .is (.a 0) 2, .ne (.a 0) 1]) : ArgJ val :=
  leaf h [(.c 0), (.c 0), (.c 0), (.c 0), (.c 0), (.c 0), (.c 0), (.c 0), (.c 0), (.c 0), (.c 0), (.c 2), (.c 0)] rfl (by kernel_rfl)

theorem argJ280 (val : Nat → Int) (h : Holds val [.is (.a 7) 0, .is (.a 6) 0, .is (.a 5) 0, .is (.a 4) 0, .is (.a 3) 8, .ne (.a 3) 0, .is (.a 9) 16, .ne (.a 9) 8, .ne (.a 9) 4, .ne (.a 9) 2, .ne (.a 9) 1, .ne (.a 9) 0, .le (.a 8) 2147483647, .ge (.a 8) (-2147483648), .is (.a 0) 2, .ne (.a 0) 1]) : ArgJ val :=
  leaf h [(.a 0), (.c 0), (.c 0), (.a 3), (.a 4), (.a 5), (.a 6), (.a 7), (.a 8), (.a 9), (.c 0), (.c 0), (.a 9)] rfl (by kernel_rfl)

theorem argJ281 (val : Nat → Int) (h : Holds val [.ne (.a 7) 0, .is (.a 6) 0, .is (.a 5) 0, .is (.a 4) 0, .is (.a 3) 8, .ne (.a 3) 0, .is (.a 9) 16, .ne (.a 9) 8, .ne (.a 9) 4, .ne (.a 9) 2, .ne (.a 9) 1, .ne (.a 9) 0, .le (.a 8) 2147483647, .ge (.a 8) (-2147483648), .is (.a 0) 2, .ne (.a 0) 1]) : ArgJ val :=
  leaf h [(.c 0), (.c 0), (.c 0), (.c 0), (.c 0), (.c 0), (.c 0), (.c 0), (.c 0), (.c 0), (.c 0), (.c 2), (.c 0)] rfl (by kernel_rfl)

theorem argJ282 (val : Nat → Int) (h : Holds val [.ne (.a 6) 0, .is (.a 5) 0, .is (.a 4) 0, .is (.a 3) 8, .ne (.a 3) 0, .is (.a 9) 16, .ne (.a 9) 8, .ne (.a 9) 4, .ne (.a 9) 2, .ne (.a 9) 1, .ne (.a 9) 0, .le (.a 8) 2147483647, .ge (.a 8) (-2147483648), .is (.a 0) 2, .ne (.a 0) 1]) : ArgJ val :=
  leaf h [(.c 0), (.c 0), (.c 0), (.c 0), (.c 0), (.c 0), (.c 0), (.c 0), (.c 0), (.c 0), (.c 0), (.c 2), (.c 0)] rfl (by kernel_rfl)

theorem argJ283 (val : Nat → Int) (h : Holds val [.is (.a 7) 1, .le (.a 6) 15, .ge (.a 6) 0, .is (.a 5) 5, .ne (.a 5) 0, .is (.a 4) 0, .is (.a 3) 8, .ne (.a 3) 0, .is (.a 9) 16, .ne (.a 9) 8, .ne (.a 9) 4, .ne (.a 9) 2, .ne (.a 9) 1, .ne (.a 9) 0, .le (.a 8) 2147483647, .ge (.a 8) (-2147483648), .is (.a 0) 2, .ne (.a 0) 1]) : ArgJ val :=
  leaf h [(.c 0), (.c 0), (.c 0), (.c 0), (.c 0), (.c 0), (.c 0), (.c 0), (.c 0), (.c 0), (.c 0), (.c 2), (.c 0)] rfl (by kernel_rfl)

theorem argJ284 (val : Nat → Int) (h : Holds val [.is (.a 7) 2, .ne (.a 7) 1, .le (.a 6) 15, .ge (.a 6) 0, .is (.a 5) 5, .ne (.a 5) 0, .is (.a 4) 0, .is (.a 3) 8, .ne (.a 3) 0, .is (.a 9) 16, .ne (.a 9) 8, .ne (.a 9) 4, .ne (.a 9) 2, .ne (.a 9) 1, .ne (.a 9) 0, .le (.a 8) 2147483647, .ge (.a 8) (-2147483648), .is (.a 0) 2, .ne (.a 0) 1]) : ArgJ val :=
  leaf h [(.c 0), (.c 0), (.c 0), (.c 0), (.c 0), (.c 0), (.c 0), (.c 0), (.c 0), (.c 0), (.c 0), (.c 2), (.c 0)] rfl (by kernel_rfl)

theorem argJ285 (val : Nat → Int) (h : Holds val [.is (.a 7) 4, .ne (.a 7) 2, .ne (.a 7) 1, .le (.a 6) 15, .ge (.a 6) 0, .is (.a 5) 5, .ne (.a 5) 0, .is (.a 4) 0, .is (.a 3) 8, .ne (.a 3) 0, .is (.a 9) 16, .ne (.a 9) 8, .ne (.a 9) 4, .ne (.a 9) 2, .ne (.a 9) 1, .ne (.a 9) 0, .le (.a 8) 2147483647, .ge (.a 8) (-2147483648), .is (.a 0) 2, .ne (.a 0) 1]) : ArgJ val :=
  leaf h [(.c 0), (.c 0), (.c 0), (.c 0), (.c 0), (.c 0), (.c 0), (.c 0), (.c 0), (.c 0), (.c 0), (.c 2), (.c 0)] rfl (by kernel_rfl)

theorem argJ286 (val : Nat → Int) (h : Holds val [.is (.a 7) 8, .ne (.a 7) 4, .ne (.a 7) 2, .ne (.a 7) 1, .le (.a 6) 15, .ge (.a 6) 0, .is (.a 5) 5, .ne (.a 5) 0, .is (.a 4) 0, .is (.a 3) 8, .ne (.a 3) 0, .is (.a 9) 16, .ne (.a 9) 8, .ne (.a 9) 4, .ne (.a 9) 2, .ne (.a 9) 1, .ne (.a 9) 0, .le (.a 8) 2147483647, .ge (.a 8) (-2147483648), .is (.a 0) 2, .ne (.a 0) 1]) : ArgJ val :=
  leaf h [(.c 0), (.c 0), (.c 0), (.c 0), (.c 0), (.c 0), (.c 0), (.c 0), (.c 0), (.c 0), (.c 0), (.c 2), (.c 0)] rfl (by kernel_rfl)

theorem argJ287 (val : Nat → Int) (h : Holds val [.ne (.a 7) 8, .ne (.a 7) 4, .ne (.a 7) 2, .ne (.a 7) 1, .le (.a 6) 15, .ge (.a 6) 0, .is (.a 5) 5, .ne (.a 5) 0, .is (.a 4) 0, .is (.a 3) 8, .ne (.a 3) 0, .is (.a 9) 16, .ne (.a 9) 8, .ne (.a 9) 4, .ne (.a 9) 2, .ne (.a 9) 1, .ne (.a 9) 0, .le (.a 8) 2147483647, .ge (.a 8) (-2147483648), .is (.a 0) 2, .ne (.a 0) 1]) : ArgJ val :=
  leaf h [(.c 0), (.c 0), (.c 0), (.c 0), (.c 0), (.c 0), (.c 0), (.c 0), (.c 0), (.c 0), (.c 0), (.c 2), (.c 0)] rfl (by kernel_rfl)

theorem argJ288 (val : Nat → Int) (h : Holds val [.ge (.a 6) 16, .ge (.a 6) 0, .is (.a 5) 5, .ne (.a 5) 0, .is (.a 4) 0, .is (.a 3) 8, .ne (.a 3) 0, .is (.a 9) 16, .ne (.a 9) 8, .ne (.a 9) 4, .ne (.a 9) 2, .ne (.a 9) 1, .ne (.a 9) 0, .le (.a 8) 2147483647, .ge (.a 8) (-2147483648), .is (.a 0) 2, .ne (.a 0) 1]) : ArgJ val :=
  leaf h [(.c 0), (.c 0), (.c 0), (.c 0), (.c 0), (.c 0), (.c 0), (.c 0), (.c 0), (.c 0), (.c 0), (.c 2), (.c 0)] rfl (by kernel_rfl)

theorem argJ289 (val : Nat → Int) (h : Holds val [.le (.a 6) (-1), .is (.a 5) 5, .ne (.a 5) 0, .is (.a 4) 0, .is (.a 3) 8, .ne (.a 3) 0, .is (.a 9) 16, .ne (.a 9) 8, .ne (.a 9) 4, .ne (.a 9) 2, .ne (.a 9) 1, .ne (.a 9) 0, .le (.a 8) 2147483647, .ge (.a 8) (-2147483648), .is (.a 0) 2, .ne (.a 0) 1]) : ArgJ val :=
  leaf h [(.c 0), (.c 0), (.c 0), (.c 0), (.c 0), (.c 0), (.c 0), (.c 0), (.c 0), (.c 0), (.c 0), (.c 2), (.c 0)] rfl (by kernel_rfl)

theorem argJ290 (val : Nat → Int) (h : Holds val [.ne (.a 5) 5, .ne (.a 5) 0, .is (.a 4) 0, .is (.a 3) 8, .ne (.a 3) 0, .is (.a 9) 16, .ne (.a 9) 8, .ne (.a 9) 4, .ne (.a 9) 2, .ne (.a 9) 1, .ne (.a 9) 0, .le (.a 8) 2147483647, .ge (.a 8) (-2147483648), .is (.a 0) 2, .ne (.a 0) 1]) : ArgJ val :=
  leaf h [(.c 0), (.c 0), (.c 0), (.c 0), (.c 0), (.c 0), (.c 0), (.c 0), (.c 0), (.c 0), (.c 0), (.c 2), (.c 0)] rfl (by kernel_rfl)

theorem argJ291 (val : Nat → Int) (h : Holds val [.ne (.a 4) 0, .is (.a 3) 8, .ne (.a 3) 0, .is (.a 9) 16, .ne (.a 9) 8, .ne (.a 9) 4, .ne (.a 9) 2, .ne (.a 9) 1, .ne (.a 9) 0, .le (.a 8) 2147483647, .ge (.a 8) (-2147483648), .is (.a 0) 2, .ne (.a 0) 1]) : ArgJ val :=
  leaf h [(.c 0), (.c 0), (.c 0), (.c 0), (.c 0), (.c 0), (.c 0), (.c 0), (.c 0), (.c 0), (.c 0), (.c 2), (.c 0)] rfl (by kernel_rfl)

theorem argJ292 (val : Nat → Int) (h : Holds val [.is (.a 7) 0, .is (.a 6) 0, .is (.a 5) 0, .le (.a 4) 15, .ge (.a 4) 0, .is (.a 3) 5, .ne (.a 3) 8, .ne (.a 3) 0, .is (.a 9) 16, .ne (.a 9) 8, .ne (.a 9) 4, .ne (.a 9) 2, .ne (.a 9) 1, .ne (.a 9) 0, .le (.a 8) 2147483647, .ge (.a 8) (-2147483648), .is (.a 0) 2, .ne (.a 0) 1]) : ArgJ val :=
  leaf h [(.a 0), (.c 0), (.c 0), (.a 3), (.a 4), (.a 5), (.a 6), (.a 7), (.a 8), (.a 9), (.c 0), (.c 0), (.a 9)] rfl (by kernel_rfl)

theorem argJ293 (val : Nat → Int) (h : Holds val [.ne (.a 7) 0, .is (.a 6) 0, .is (.a 5) 0, .le (.a 4) 15, .ge (.a 4) 0, .is (.a 3) 5, .ne (.a 3) 8, .ne (.a 3) 0, .is (.a 9) 16, .ne (.a 9) 8, .ne (.a 9) 4, .ne (.a 9) 2, .ne (.a 9) 1, .ne (.a 9) 0, .le (.a 8) 2147483647, .ge (.a 8) (-2147483648), .is (.a 0) 2, .ne (.a 0) 1]) : ArgJ val :=
  leaf h [(.c 0), (.c 0), (.c 0), (.c 0), (.c 0), (.c 0), (.c 0), (.c 0), (.c 0), (.c 0), (.c 0), (.c 2), (.c 0)] rfl (by kernel_rfl)

theorem argJ294 (val : Nat → Int) (h : Holds val [.ne (.a 6) 0, .is (.a 5) 0, .le (.a 4) 15, .ge (.a 4) 0, .is (.a 3) 5, .ne (.a 3) 8, .ne (.a 3) 0, .is (.a 9) 16, .ne (.a 9) 8, .ne (.a 9) 4, .ne (.a 9) 2, .ne (.a 9) 1, .ne (.a 9) 0, .le (.a 8) 2147483647, .ge (.a 8) (-2147483648), .is (.a 0) 2, .ne (.a 0) 1]) : ArgJ val :=
  leaf h [(.c 0), (.c 0), (.c 0), (.c 0), (.c 0), (.c 0), (.c 0), (.c 0), (.c 0), (.c 0), (.c 0), (.c 2), (.c 0)] rfl (by kernel_rfl)

theorem argJ295 (val : Nat → Int) (h : Holds val [.is (.a 4) 4, .is (.a 6) 4, .is (.a 7) 1, .le (.a 6) 15, .ge (.a 6) 0, .is (.a 5) 5, .ne (.a 5) 0, .le (.a 4) 15, .ge (.a 4) 0, .is (.a 3) 5, .ne (.a 3) 8, .ne (.a 3) 0, .is (.a 9) 16, .ne (.a 9) 8, .ne (.a 9) 4, .ne (.a 9) 2, .ne (.a 9) 1, .ne (.a 9) 0, .le (.a 8) 2147483647, .ge (.a 8) (-2147483648), .is (.a 0) 2, .ne (.a 0) 1]) : ArgJ val :=
  leaf h [(.c 0), (.c 0), (.c 0), (.c 0), (.c 0), (.c 0), (.c 0), (.c 0), (.c 0), (.c 0), (.c 0), (.c 2), (.c 0)] rfl (by kernel_rfl)

theorem argJ296 (val : Nat → Int) (h : Holds val [.ne (.a 4) 4, .is (.a 6) 4, .is (.a 7) 1, .le (.a 6) 15, .ge (.a 6) 0, .is (.a 5) 5, .ne (.a 5) 0, .le (.a 4) 15, .ge (.a 4) 0, .is (.a 3) 5, .ne (.a 3) 8, .ne (.a 3) 0, .is (.a 9) 16, .ne (.a 9) 8, .ne (.a 9) 4, .ne (.a 9) 2, .ne (.a 9) 1, .ne (.a 9) 0, .le (.a 8) 2147483647, .ge (.a 8) (-2147483648), .is (.a 0) 2, .ne (.a 0) 1]) : ArgJ val :=
  leaf h [(.a 0), (.c 0), (.c 0), (.a 5), (.a 6), (.a 3), (.a 4), (.a 7), (.a 8), (.a 9), (.c 0), (.c 0), (.a 9)] rfl (by kernel_rfl)

theorem argJ297 (val : Nat → Int) (h : Holds val [.ne (.a 6) 4, .is (.a 7) 1, .le (.a 6) 15, .ge (.a 6) 0, .is (.a 5) 5, .ne (.a 5) 0, .le (.a 4) 15, .ge (.a 4) 0, .is (.a 3) 5, .ne (.a 3) 8, .ne (.a 3) 0, .is (.a 9) 16, .ne (.a 9) 8, .ne (.a 9) 4, .ne (.a 9) 2, .ne (.a 9) 1, .ne (.a 9) 0, .le (.a 8) 2147483647, .ge (.a 8) (-2147483648), .is (.a 0) 2, .ne (.a 0) 1]) : ArgJ val :=
  leaf h [(.a 0), (.c 0), (.c 0), (.a 3), (.a 4), (.a 5), (.a 6), (.a 7), (.a 8), (.a 9), (.c 0), (.c 0), (.a 9)] rfl (by kernel_rfl)

theorem argJ298 (val : Nat → Int) (h : Holds val [.is (.a 6) 4, .is (.a 7) 2, .ne (.a 7) 1, .le (.a 6) 15, .ge (.a 6) 0, .is (.a 5) 5, .ne (.a 5) 0, .le (.a 4) 15, .ge (.a 4) 0, .is (.a 3) 5, .ne (.a 3) 8, .ne (.a 3) 0, .is (.a 9) 16, .ne (.a 9) 8, .ne (.a 9) 4, .ne (.a 9) 2, .ne (.a 9) 1, .ne (.a 9) 0, .le (.a 8) 2147483647, .ge (.a 8) (-2147483648), .is (.a 0) 2, .ne (.a 0) 1]) : ArgJ val :=
  leaf h [(.c 0), (.c 0), (.c 0), (.c 0), (.c 0), (.c 0), (.c 0), (.c 0), (.c 0), (.c 0), (.c 0), (.c 2), (.c 0)] rfl (by kernel_rfl)

theorem argJ299 (val : Nat → Int) (h : Holds val [.ne (.a 6) 4, .is (.a 7) 2, .ne (.a 7) 1, .le (.a 6) 15, .ge (.a 6) 0, .is (.a 5) 5, .ne (.a 5) 0, .le (.a 4) 15, .ge (.a 4) 0, .is (.a 3) 5, .ne (.a 3) 8, .ne (.a 3) 0, .is (.a 9) 16, .ne (.a 9) 8, .ne (.a 9) 4, .ne (.a 9) 2, .ne (.a 9) 1, .ne (.a 9) 0, .le (.a 8) 2147483647, .ge (.a 8) (-2147483648), .is (.a 0) 2, .ne (.a 0) 1]) : ArgJ val :=
  leaf h [(.a 0), (.c 0), (.c 0), (.a 3), (.a 4), (.a 5), (.a 6), (.a 7), (.a 8), (.a 9), (.c 0), (.c 0), (.a 9)] rfl (by kernel_rfl)

theorem argJ300 (val : Nat → Int) (h : Holds val [.is (.a 6) 4, .is (.a 7) 4, .ne (.a 7) 2, .ne (.a 7) 1, .le (.a 6) 15, .ge (.a 6) 0, .is (.a 5) 5, .ne (.a 5) 0, .le (.a 4) 15, .ge (.a 4) 0, .is (.a 3) 5, .ne (.a 3) 8, .ne (.a 3) 0, .is (.a 9) 16, .ne (.a 9) 8, .ne (.a 9) 4, .ne (.a 9) 2, .ne (.a 9) 1, .ne (.a 9) 0, .le (.a 8) 2147483647, .ge (.a 8) (-2147483648), .is (.a 0) 2, .ne (.a 0) 1]) : ArgJ val :=
  leaf h [(.c 0), (.c 0), (.c 0), (.c 0), (.c 0), (.c 0), (.c 0), (.c 0), (.c 0), (.c 0), (.c 0), (.c 2), (.c 0)] rfl (by kernel_rfl)

theorem argJ301 (val : Nat → Int) (h : Holds val [.ne (.a 6) 4, .is (.a 7) 4, .ne (.a 7) 2, .ne (.a 7) 1, .le (.a 6) 15, .ge (.a 6) 0, .is (.a 5) 5, .ne (.a 5) 0, .le (.a 4) 15, .ge (.a 4) 0, .is (.a 3) 5, .ne (.a 3) 8, .ne (.a 3) 0, .is (.a 9) 16, .ne (.a 9) 8, .ne (.a 9) 4, .ne (.a 9) 2, .ne (.a 9) 1, .ne (.a 9) 0, .le (.a 8) 2147483647, .ge (.a 8) (-2147483648), .is (.a 0) 2, .ne (.a 0) 1]) : ArgJ val :=
  leaf h [(.a 0), (.c 0), (.c 0), (.a 3), (.a 4), (.a 5), (.a 6), (.a 7), (.a 8), (.a 9), (.c 0), (.c 0), (.a 9)] rfl (by kernel_rfl)

theorem argJ302 (val : Nat → Int) (h : Holds val [.is (.a 6) 4, .is (.a 7) 8, .ne (.a 7) 4, .ne (.a 7) 2, .ne (.a 7) 1, .le (.a 6) 15, .ge (.a 6) 0, .is (.a 5) 5, .ne (.a 5) 0, .le (.a 4) 15, .ge (.a 4) 0, .is (.a 3) 5, .ne (.a 3) 8, .ne (.a 3) 0, .is (.a 9) 16, .ne (.a 9) 8, .ne (.a 9) 4, .ne (.a 9) 2, .ne (.a 9) 1, .ne (.a 9) 0, .le (.a 8) 2147483647, .ge (.a 8) (-2147483648), .is (.a 0) 2, .ne (.a 0) 1]) : ArgJ val :=
  leaf h [(.c 0), (.c 0), (.c 0), (.c 0), (.c 0), (.c 0), (.c 0), (.c 0), (.c 0), (.c 0), (.c 0), (.c 2), (.c 0)] rfl (by kernel_rfl)

theorem argJ303 (val : Nat → Int) (h : Holds val [.ne (.a 6) 4, .is (.a 7) 8, .ne (.a 7) 4, .ne (.a 7) 2, .ne (.a 7) 1, .le (.a 6) 15, .ge (.a 6) 0, .is (.a 5) 5, .ne (.a 5) 0, .le (.a 4) 15, .ge (.a 4) 0, .is (.a 3) 5, .ne (.a 3) 8, .ne (.a 3) 0, .is (.a 9) 16, .ne (.a 9) 8, .ne (.a 9) 4, .ne (.a 9) 2, .ne (.a 9) 1, .ne (.a 9) 0, .le (.a 8) 2147483647, .ge (.a 8) (-2147483648), .is (.a 0) 2, .ne (.a 0) 1]) : ArgJ val :=
  leaf h [(.a 0), (.c 0), (.c 0), (.a 3), (.a 4), (.a 5), (.a 6), (.a 7), (.a 8), (.a 9), (.c 0), (.c 0), (.a 9)] rfl (by kernel_rfl)

theorem argJ304 (val : Nat → Int) (h : Holds val [.ne (.a 7) 8, .ne (.a 7) 4, .ne (.a 7) 2, .ne (.a 7) 1, .le (.a 6) 15, .ge (.a 6) 0, .is (.a 5) 5, .ne (.a 5) 0, .le (.a 4) 15, .ge (.a 4) 0, .is (.a 3) 5, .ne (.a 3) 8, .ne (.a 3) 0, .is (.a 9) 16, .ne (.a 9) 8, .ne (.a 9) 4, .ne (.a 9) 2, .ne (.a 9) 1, .ne (.a 9) 0, .le (.a 8) 2147483647, .ge (.a 8) (-2147483648), .is (.a 0) 2, .ne (.a 0) 1]) : ArgJ val :=
  leaf h [(.c 0), (.c 0), (.c 0), (.c 0), (.c 0), (.c 0), (.c 0), (.c 0), (.c 0), (.c 0), (.c 0), (.c 2), (.c 0)] rfl (by kernel_rfl)

theorem argJ305 (val : Nat → Int) (h : Holds val [.ge (.a 6) 16, .ge (.a 6) 0, .is (.a 5) 5, .ne (.a 5) 0, .le (.a 4) 15, .ge (.a 4) 0, .is (.a 3) 5, .ne (.a 3) 8, .ne (.a 3) 0, .is (.a 9) 16, .ne (.a 9) 8, .ne (.a 9) 4, .ne (.a 9) 2, .ne (.a 9) 1, .ne (.a 9) 0, .le (.a 8) 2147483647, .ge (.a 8) (-2147483648), .is (.a 0) 2, .ne (.a 0) 1]) : ArgJ val :=
  leaf h [(.c 0), (.c 0), (.c 0), (.c 0), (.c 0), (.c 0), (.c 0), (.c 0), (.c 0), (.c 0), (.c 0), (.c 2), (.c 0)] rfl (by kernel_rfl)

theorem argJ306 (val : Nat → Int) (h : Holds val [.le (.a 6) (-1), .is (.a 5) 5, .ne (.a 5) 0, .le (.a 4) 15, .ge (.a 4) 0, .is (.a 3) 5, .ne (.a 3) 8, .ne (.a 3) 0, .is (.a 9) 16, .ne (.a 9) 8, .ne (.a 9) 4, .ne (.a 9) 2, .ne (.a 9) 1, .ne (.a 9) 0, .le (.a 8) 2147483647, .ge (.a 8) (-2147483648), .is (.a 0) 2, .ne (.a 0) 1]) : ArgJ val :=
  leaf h [(.c 0), (.c 0), (.c 0), (.c 0), (.c 0), (.c 0), (.c 0), (.c 0), (.c 0), (.c 0), (.c 0), (.c 2), (.c 0)] rfl (by kernel_rfl)

theorem argJ307 (val : Nat → Int) (h : Holds val [.ne (.a 5) 5, .ne (.a 5) 0, .le (.a 4) 15, .ge (.a 4) 0, .is (.a 3) 5, .ne (.a 3) 8, .ne (.a 3) 0, .is (.a 9) 16, .ne (.a 9) 8, .ne (.a 9) 4, .ne (.a 9) 2, .ne (.a 9) 1, .ne (.a 9) 0, .le (.a 8) 2147483647, .ge (.a 8) (-2147483648), .is (.a 0) 2, .ne (.a 0) 1]) : ArgJ val :=
  leaf h [(.c 0), (.c 0), (.c 0), (.c 0), (.c 0), (.c 0), (.c 0), (.c 0), (.c 0), (.c 0), (.c 0), (.c 2), (.c 0)] rfl (by kernel_rfl)

theorem argJ308 (val : Nat → Int) (h : Holds val [.ge (.a 4) 16, .ge (.a 4) 0, .is (.a 3) 5, .ne (.a 3) 8, .ne (.a 3) 0, .is (.a 9) 16, .ne (.a 9) 8, .ne (.a 9) 4, .ne (.a 9) 2, .ne (.a 9) 1, .ne (.a 9) 0, .le (.a 8) 2147483647, .ge (.a 8) (-2147483648), .is (.a 0) 2, .ne (.a 0) 1]) : ArgJ val :=
  leaf h [(.c 0), (.c 0), (.c 0), (.c 0), (.c 0), (.c 0), (.c 0), (.c 0), (.c 0), (.c 0), (.c 0), (.c 2), (.c 0)] rfl (by kernel_rfl)

theorem argJ309 (val : Nat → Int) (h : Holds val [.le (.a 4) (-1), .is (.a 3) 5, .ne (.a 3) 8, .ne (.a 3) 0, .is (.a 9) 16, .ne (.a 9) 8, .ne (.a 9) 4, .ne (.a 9) 2, .ne (.a 9) 1, .ne (.a 9) 0, .le (.a 8) 2147483647, .ge (.a 8) (-2147483648), .is (.a 0) 2, .ne (.a 0) 1]) : ArgJ val :=
  leaf h [(.c 0), (.c 0), (.c 0), (.c 0), (.c 0), (.c 0), (.c 0), (.c 0), (.c 0), (.c 0), (.c 0), (.c 2), (.c 0)] rfl (by kernel_rfl)

theorem argJ310 (val : Nat → Int) (h : Holds val [.ne (.a 3) 5, .ne (.a 3) 8, .ne (.a 3) 0, .is (.a 9) 16, .ne (.a 9) 8, .ne (.a 9) 4, .ne (.a 9) 2, .ne (.a 9) 1, .ne (.a 9) 0, .le (.a 8) 2147483647, .ge (.a 8) (-2147483648), .is (.a 0) 2, .ne (.a 0) 1]) : ArgJ val :=
  leaf h [(.c 0), (.c 0), (.c 0), (.c 0), (.c 0), (.c 0), (.c 0), (.c 0), (.c 0), (.c 0), (.c 0), (.c 2), (.c 0)] rfl (by kernel_rfl)

theorem argJ311 (val : Nat → Int) (h : Holds val [.is (.a 7) 0, .is (.a 6) 0, .is (.a 5) 0, .is (.a 4) 0, .is (.a 3) 0, .is (.a 9) 32, .ne (.a 9) 16, .ne (.a 9) 8, .ne (.a 9) 4, .ne (.a 9) 2, .ne (.a 9) 1, .ne (.a 9) 0, .le (.a 8) 2147483647, .ge (.a 8) (-2147483648), .is (.a 0) 2, .ne (.a 0) 1]) : ArgJ val :=
  leaf h [(.a 0), (.c 0), (.c 0), (.a 3), (.a 4), (.a 5), (.a 6), (.a 7), (.a 8), (.a 9), (.c 0), (.c 0), (.a 9)] rfl (by kernel_rfl)

theorem argJ312 (val : Nat → Int) (h : Holds val [.ne (.a 7) 0, .is (.a 6) 0, .is (.a 5) 0, .is (.a 4) 0, .is (.a 3) 0, .is (.a 9) 32, .ne (.a 9) 16, .ne (.a 9) 8, .ne (.a 9) 4, .ne (.a 9) 2, .ne (.a 9) 1, .ne (.a 9) 0, .le (.a 8) 2147483647, .ge (.a 8) (-2147483648), .is (.a 0) 2, .ne (.a 0) 1]) : ArgJ val :=
  leaf h [(.c 0), (.c 0), (.c 0), (.c 0), (.c 0), (.c 0), (.c 0), (.c 0), (.c 0), (.c 0), (.c 0), (.c 2), (.c 0)] rfl (by kernel_rfl)

theorem argJ313 (val : Nat → Int) (h : Holds val [.ne (.a 6) 0, .is (.a 5) 0, .is (.a 4) 0, .is (.a 3) 0, .is (.a 9) 32, .ne (.a 9) 16, .ne (.a 9) 8, .ne (.a 9) 4, .ne (.a 9) 2, .ne (.a 9) 1, .ne (.a 9) 0, .le (.a 8) 2147483647, .ge (.a 8) (-2147483648), .is (.a 0) 2, .ne (.a 0) 1]) : ArgJ val :=
  leaf h [(.c 0), (.c 0), (.c 0), (.c 0), (.c 0), (.c 0), (.c 0), (.c 0), (.c 0), (.c 0), (.c 0), (.c 2), (.c 0)] rfl (by kernel_rfl)

theorem argJ314 (val : Nat → Int) (h : Holds val [.is (.a 6) 4, .is (.a 7) 1, .le (.a 6) 15, .ge (.a 6) 0, .is (.a 5) 5, .ne (.a 5) 0, .is (.a 4) 0, .is (.a 3) 0, .is (.a 9) 32, .ne (.a 9) 16, .ne (.a 9) 8, .ne (.a 9) 4, .ne (.a 9) 2, .ne (.a 9) 1, .ne (.a 9) 0, .le (.a 8) 2147483647, .ge (.a 8) (-2147483648), .is (.a 0) 2, .ne (.a 0) 1]) : ArgJ val :=
  leaf h [(.a 0), (.c 0), (.c 0), (.a 5), (.a 6), (.c 0), (.c 0), (.c 0), (.a 8), (.a 9), (.c 0), (.c 0), (.a 9)] rfl (by kernel_rfl)

theorem argJ315 (val : Nat → Int) (h : Holds val [.ne (.a 6) 4, .is (.a 7) 1, .le (.a 6) 15, .ge (.a 6) 0, .is (.a 5) 5, .ne (.a 5) 0, .is (.a 4) 0, .is (.a 3) 0, .is (.a 9) 32, .ne (.a 9) 16, .ne (.a 9) 8, .ne (.a 9) 4, .ne (.a 9) 2, .ne (.a 9) 1, .ne (.a 9) 0, .le (.a 8) 2147483647, .ge (.a 8) (-2147483648), .is (.a 0) 2, .ne (.a 0) 1]) : ArgJ val :=
  leaf h [(.a 0), (.c 0), (.c 0), (.a 5), (.a 6), (.c 0), (.c 0), (.c 0), (.a 8), (.a 9), (.c 0), (.c 0), (.a 9)] rfl (by kernel_rfl)

theorem argJ316 (val : Nat → Int) (h : Holds val [.is (.a 6) 4, .is (.a 7) 2, .ne (.a 7) 1, .le (.a 6) 15, .ge (.a 6) 0, .is (.a 5) 5, .ne (.a 5) 0, .is (.a 4) 0, .is (.a 3) 0, .is (.a 9) 32, .ne (.a 9) 16, .ne (.a 9) 8, .ne (.a 9) 4, .ne (.a 9) 2, .ne (.a 9) 1, .ne (.a 9) 0, .le (.a 8) 2147483647, .ge (.a 8) (-2147483648), .is (.a 0) 2, .ne (.a 0) 1]) : ArgJ val :=
  leaf h [(.c 0), (.c 0), (.c 0), (.c 0), (.c 0), (.c 0), (.c 0), (.c 0), (.c 0), (.c 0), (.c 0), (.c 2), (.c 0)] rfl (by kernel_rfl)

theorem argJ317 (val : Nat → Int) (h : Holds val [.ne (.a 6) 4, .is (.a 7) 2, .ne (.a 7) 1, .le (.a 6) 15, .ge (.a 6) 0, .is (.a 5) 5, .ne (.a 5) 0, .is (.a 4) 0, .is (.a 3) 0, .is (.a 9) 32, .ne (.a 9) 16, .ne (.a 9) 8, .ne (.a 9) 4, .ne (.a 9) 2, .ne (.a 9) 1, .ne (.a 9) 0, .le (.a 8) 2147483647, .ge (.a 8) (-2147483648), .is (.a 0) 2, .ne (.a 0) 1]) : ArgJ val :=
  leaf h [(.a 0), (.c 0), (.c 0), (.a 3), (.a 4), (.a 5), (.a 6), (.a 7), (.a 8), (.a 9), (.c 0), (.c 0), (.a 9)] rfl (by kernel_rfl)

theorem argJ318 (val : Nat → Int) (h : Holds val [.is (.a 6) 4, .is (.a 7) 4, .ne (.a 7) 2, .ne (.a 7) 1, .le (.a 6) 15, .ge (.a 6) 0, .is (.a 5) 5, .ne (.a 5) 0, .is (.a 4) 0, .is (.a 3) 0, .is (.a 9) 32, .ne (.a 9) 16, .ne (.a 9) 8, .ne (.a 9) 4, .ne (.a 9) 2, .ne (.a 9) 1, .ne (.a 9) 0, .le (.a 8) 2147483647, .ge (.a 8) (-2147483648), .is (.a 0) 2, .ne (.a 0) 1]) : ArgJ val :=
  leaf h [(.c 0), (.c 0), (.c 0), (.c 0), (.c 0), (.c 0), (.c 0), (.c 0), (.c 0), (.c 0), (.c 0), (.c 2), (.c 0)] rfl (by kernel_rfl)

theorem argJ319 (val : Nat → Int) (h : Holds val [.ne (.a 6) 4, .is (.a 7) 4, .ne (.a 7) 2, .ne (.a 7) 1, .le (.a 6) 15, .ge (.a 6) 0, .is (.a 5) 5, .ne (.a 5) 0, .is (.a 4) 0, .is (.a 3) 0, .is (.a 9) 32, .ne (.a 9) 16, .ne (.a 9) 8, .ne (.a 9) 4, .ne (.a 9) 2, .ne (.a 9) 1, .ne (.a 9) 0, .le (.a 8) 2147483647, .ge (.a 8) (-2147483648), .is (.a 0) 2, .ne (.a 0) 1]) : ArgJ val :=
  leaf h [(.a 0), (.c 0), (.c 0), (.a 3), (.a 4), (.a 5), (.a 6), (.a 7), (.a 8), (.a 9), (.c 0), (.c 0), (.a 9)] rfl (by kernel_rfl)

theorem argJ320 (val : Nat → Int) (h : Holds val [.is (.a 6) 4, .is (.a 7) 8, .ne (.a 7) 4, .ne (.a 7) 2, .ne (.a 7) 1, .le (.a 6) 15, .ge (.a 6) 0, .is (.a 5) 5, .ne (.a 5) 0, .is (.a 4) 0, .is (.a 3) 0, .is (.a 9) 32, .ne (.a 9) 16, .ne (.a 9) 8, .ne (.a 9) 4, .ne (.a 9) 2, .ne (.a 9) 1, .ne (.a 9) 0, .le (.a 8) 2147483647, .ge (.a 8) (-2147483648), .is (.a 0) 2, .ne (.a 0) 1]) : ArgJ val :=
  leaf h [(.c 0), (.c 0), (.c 0), (.c 0), (.c 0), (.c 0), (.c 0), (.c 0), (.c 0), (.c 0), (.c 0), (.c 2), (.c 0)] rfl (by kernel_rfl)

theorem argJ321 (val : Nat → Int) (h : Holds val [.ne (.a 6) 4, .is (.a 7) 8, .ne (.a 7) 4, .ne (.a 7) 2, .ne (.a 7) 1, .le (.a 6) 15, .ge (.a 6) 0, .is (.a 5) 5, .ne (.a 5) 0, .is (.a 4) 0, .is (.a 3) 0, .is (.a 9) 32, .ne (.a 9) 16, .ne (.a 9) 8, .ne (.a 9) 4, .ne (.a 9) 2, .ne (.a 9) 1, .ne (.a 9) 0, .le (.a 8) 2147483647, .ge (.a 8) (-2147483648), .is (.a 0) 2, .ne (.a 0) 1]) : ArgJ val :=
  leaf h [(.a 0), (.c 0), (.c 0), (.a 3), (.a 4), (.a 5), (.a 6), (.a 7), (.a 8), (.a 9), (.c 0), (.c 0), (.a 9)] rfl (by kernel_rfl)

theorem argJ322 (val : Nat → Int) (h : Holds val [.ne (.a 7) 8, .ne (.a 7) 4, .ne (.a 7) 2, .ne (.a 7) 1, .le (.a 6) 15, .ge (.a 6) 0, .is (.a 5) 5, .ne (.a 5) 0, .is (.a 4) 0, .is (.a 3) 0, .is (.a 9) 32, .ne (.a 9) 16, .ne (.a 9) 8, .ne (.a 9) 4, .ne (.a 9) 2, .ne (.a 9) 1, .ne (.a 9) 0, .le (.a 8) 2147483647, .ge (.a 8) (-2147483648), .is (.a 0) 2, .ne (.a 0) 1]) : ArgJ val :=
  leaf h [(.c 0), (.c 0), (.c 0), (.c 0), (.c 0), (.c 0), (.c 0), (.c 0), (.c 0), (.c 0), (.c 0), (.c 2), (.c 0)] rfl (by kernel_rfl)

theorem argJ323 (val : Nat → Int) (h : Holds val [.ge (.a 6) 16, .ge (.a 6) 0, .is (.a 5) 5, .ne (.a 5) 0, .is (.a 4) 0, .is (.a 3) 0, .is (.a 9) 32, .ne (.a 9) 16, .ne (.a 9) 8, .ne (.a 9) 4, .ne (.a 9) 2, .ne (.a 9) 1, .ne (.a 9) 0, .le (.a 8) 2147483647, .ge (.a 8) (-2147483648), .is (.a 0) 2, .ne (.a 0) 1]) : ArgJ val :=
  leaf h [(.c 0), (.c 0), (.c 0), (.c 0), (.c 0), (.c 0), (.c 0), (.c 0), (.c 0), (.c 0), (.c 0), (.c 2), (.c 0)] rfl (by kernel_rfl)

theorem argJ324 (val : Nat → Int) (h : Holds val [.le (.a 6) (-1), .is (.a 5) 5, .ne (.a 5) 0, .is (.a 4) 0, .is (.a 3) 0, .is (.a 9) 32, .ne (.a 9) 16, .ne (.a 9) 8, .ne (.a 9) 4, .ne (.a 9) 2, .ne (.a 9) 1, .ne (.a 9) 0, .le (.a 8) 2147483647, .ge (.a 8) (-2147483648), .is (.a 0) 2, .ne (.a 0) 1]) : ArgJ val :=
  leaf h [(.c 0), (.c 0), (.c 0), (.c 0), (.c 0), (.c 0), (.c 0), (.c 0), (.c 0), (.c 0), (.c 0), (.c 2), (.c 0)] rfl (by kernel_rfl)

theorem argJ325 (val : Nat → Int) (h : Holds val [.ne (.a 5) 5, .ne (.a 5) 0, .is (.a 4) 0, .is (.a 3) 0, .is (.a 9) 32, .ne (.a 9) 16, .ne (.a 9) 8, .ne (.a 9) 4, .ne (.a 9) 2, .ne (.a 9) 1, .ne (.a 9) 0, .le (.a 8) 2147483647, .ge (.a 8) (-2147483648), .is (.a 0) 2, .ne (.a 0) 1]) : ArgJ val :=
  leaf h [(.c 0), (.c 0), (.c 0), (.c 0), (.c 0), (.c 0), (.c 0), (.c 0), (.c 0), (.c 0), (.c 0), (.c 2), (.c 0)] rfl (by kernel_rfl)

theorem argJ326 (val : Nat → Int) (h : Holds val [.ne (.a 4) 0, .is (.a 3) 0, .is (.a 9) 32, .ne (.a 9) 16, .ne (.a 9) 8, .ne (.a 9) 4, .ne (.a 9) 2, .ne (.a 9) 1, .ne (.a 9) 0, .le (.a 8) 2147483647, .ge (.a 8) (-2147483648), .is (.a 0) 2, .ne (.a 0) 1]) : ArgJ val :=
  leaf h [(.c 0), (.c 0), (.c 0), (.c 0), (.c 0), (.c 0), (.c 0), (.c 0), (.c 0), (.c 0), (.c 0), (.c 2), (.c 0)] rfl (by kernel_rfl)

theorem argJ327 (val : Nat → Int) (h : Holds val [.is (.a 7) 0, .is (.a 6) 0, .is (.a 5) 0, .is (.a 4) 0, .is (.a 3) 8, .ne (.a 3) 0, .is (.a 9) 32, .ne (.a 9) 16, .ne (.a 9) 8, .ne (.a 9) 4, .ne (.a 9) 2, .ne (.a 9) 1, .ne (.a 9) 0, .le (.a 8) 2147483647, .ge (.a 8) (-2147483648), .is (.a 0) 2, .ne (.a 0) 1]) : ArgJ val :=
  leaf h [(.a 0), (.c 0), (.c 0), (.a 3), (.a 4), (.a 5), (.a 6), (.a 7), (.a 8), (.a 9), (.c 0), (.c 0), (.a 9)] rfl (by kernel_rfl)

theorem argJ328 (val : Nat → Int) (h : Holds val [.ne (.a 7) 0, .is (.a 6) 0, .is (.a 5) 0, .is (.a 4) 0, .is (.a 3) 8, .ne (.a 3) 0, .is (.a 9) 32, .ne (.a 9) 16, .ne (.a 9) 8, .ne (.a 9) 4, .ne (.a 9) 2, .ne (.a 9) 1, .ne (.a 9) 0, .le (.a 8) 2147483647, .ge (.a 8) (-2147483648), .is (.a 0) 2, .ne (.a 0) 1]) : ArgJ val :=
  leaf h [(.c 0), (.c 0), (.c 0), (.c 0), (.c 0), (.c 0), (.c 0), (.c 0), (.c 0), (.c 0), (.c 0), (.c 2), (.c 0)] rfl (by kernel_rfl)

theorem argJ329 (val : Nat → Int) (h : Holds val [.ne (.a 6) 0, .is (.a 5) 0, .is (.a 4) 0, .is (.a 3) 8, .ne (.a 3) 0, .is (.a 9) 32, .ne (.a 9) 16, .ne (.a 9) 8, .ne (.a 9) 4, .ne (.a 9) 2, .ne (.a 9) 1, .ne (.a 9) 0, .le (.a 8) 2147483647, .ge (.a 8) (-2147483648), .is (.a 0) 2, .ne (.a 0) 1]) : ArgJ val :=
  leaf h [(.c 0), (.c 0), (.c 0), (.c 0), (.c 0), (.c 0), (.c 0), (.c 0), (.c 0), (.c 0), (.c 0), (.c 2), (.c 0)] rfl (by kernel_rfl)

theorem argJ330 (val : Nat → Int) (h : Holds val [.is (.a 7) 1, .le (.a 6) 15, .ge (.a 6) 0, .is (.a 5) 5, .ne (.a 5) 0, .is (.a 4) 0, .is (.a 3) 8, .ne (.a 3) 0, .is (.a 9) 32, .ne (.a 9) 16, .ne (.a 9) 8, .ne (.a 9) 4, .ne (.a 9) 2, .ne (.a 9) 1, .ne (.a 9) 0, .le (.a 8) 2147483647, .ge (.a 8) (-2147483648), .is (.a 0) 2, .ne (.a 0) 1]) : ArgJ val :=
  leaf h [(.c 0), (.c 0), (.c 0), (.c 0), (.c 0), (.c 0), (.c 0), (.c 0), (.c 0), (.c 0), (.c 0), (.c 2), (.c 0)] rfl (by kernel_rfl)

theorem argJ331 (val : Nat → Int) (h : Holds val [.is (.a 7) 2, .ne (.a 7) 1, .le (.a 6) 15, .ge (.a 6) 0, .is (.a 5) 5, .ne (.a 5) 0, .is (.a 4) 0, .is (.a 3) 8, .ne (.a 3) 0, .is (.a 9) 32, .ne (.a 9) 16, .ne (.a 9) 8, .ne (.a 9) 4, .ne (.a 9) 2, .ne (.a 9) 1, .ne (.a 9) 0, .le (.a 8) 2147483647, .ge (.a 8) (-2147483648), .is (.a 0) 2, .ne (.a 0) 1]) : ArgJ val :=
  leaf h [(.c 0), (.c 0), (.c 0), (.c 0), (.c 0), (.c 0), (.c 0), (.c 0), (.c 0), (.c 0), (.c 0), (.c 2), (.c 0)] rfl (by kernel_rfl)

theorem argJ332 (val : Nat → Int) (h : Holds val [.is (.a 7) 4, .ne (.a 7) 2, .ne (.a 7) 1, .le (.a 6) 15, .ge (.a 6) 0, .is (.a 5) 5, .ne (.a 5) 0, .is (.a 4) 0, .is (.a 3) 8, .ne (.a 3) 0, .is (.a 9) 32, .ne (.a 9) 16, .ne (.a 9) 8, .ne (.a 9) 4, .ne (.a 9) 2, .ne (.a 9) 1, .ne (.a 9) 0, .le (.a 8) 2147483647, .ge (.a 8) (-2147483648), .is (.a 0) 2, .ne (.a 0) 1]) : ArgJ val :=
  leaf h [(.c 0), (.c 0), (.c 0), (.c 0), (.c 0), (.c 0), (.c 0), (.c 0), (.c 0), (.c 0), (.c 0), (.c 2), (.c 0)] rfl (by kernel_rfl)

theorem argJ333 (val : Nat → Int) (h : Holds val [.is (.a 7) 8, .ne (.a 7) 4, .ne (.a 7) 2, .ne (.a 7) 1, .le (.a 6) 15, .ge (.a 6) 0, .is (.a 5) 5, .ne (.a 5) 0, .is (.a 4) 0, .is (.a 3) 8, .ne (.a 3) 0, .is (.a 9) 32, .ne (.a 9) 16, .ne (.a 9) 8, .ne (.a 9) 4, .ne (.a 9) 2, .ne (.a 9) 1, .ne (.a 9) 0, .le (.a 8) 2147483647, .ge (.a 8) (-2147483648), .is (.a 0) 2, .ne (.a 0) 1]) : ArgJ val :=
  leaf h [(.c 0), (.c 0), (.c 0), (.c 0), (.c 0), (.c 0), (.c 0), (.c 0), (.c 0), (.c 0), (.c 0), (.c 2), (.c 0)] rfl (by kernel_rfl)

theorem argJ334 (val : Nat → Int) (h : Holds val [.ne (.a 7) 8, .ne (.a 7) 4, .ne (.a 7) 2, .ne (.a 7) 1, .le (.a 6) 15, .ge (.a 6) 0, .is (.a 5) 5, .ne (.a 5) 0, .is (.a 4) 0, .is (.a 3) 8, .ne (.a 3) 0, .is (.a 9) 32, .ne (.a 9) 16, .ne (.a 9) 8, .ne (.a 9) 4, .ne (.a 9) 2, .ne (.a 9) 1, .ne (.a 9) 0, .le (.a 8) 2147483647, .ge (.a 8) (-2147483648), .is (.a 0) 2, .ne (.a 0) 1]) : ArgJ val :=
  leaf h [(.c 0), (.c 0), (.c 0), (.c 0), (.c 0), (.c 0), (.c 0), (.c 0), (.c 0), (.c 0), (.c 0), (.c 2), (.c 0)] rfl (by kernel_rfl)

theorem argJ335 (val : Nat → Int) (h : Holds val [.ge (.a 6) 16, .ge (.a 6) 0, .is (.a 5) 5, .ne (.a 5) 0, .is (.a 4) 0, .is (.a 3) 8, .ne (.a 3) 0, .is (.a 9) 32, .ne (.a 9) 16, .ne (.a 9) 8, .ne (.a 9) 4, .ne (.a 9) 2, .ne (.a 9) 1, .ne (.a 9) 0, .le (.a 8) 2147483647, .ge (.a 8) (-2147483648), .is (.a 0) 2, .ne (.a 0) 1]) : ArgJ val :=
  leaf h [(.c 0), (.c 0), (.c 0), (.c 0), (.c 0), (.c 0), (.c 0), (.c 0), (.c 0), (.c 0), (.c 0), (.c 2), (.c 0)] rfl (by kernel_rfl)

theorem argJ336 (val : Nat → Int) (h : Holds val [.le (.a 6) (-1), .is (.a 5) 5, .ne (.a 5) 0, .is (.a 4) 0, .is (.a 3) 8, .ne (.a 3) 0, .is (.a 9) 32, .ne (.a 9) 16, .ne (.a 9) 8, .ne (.a 9) 4, .ne (.a 9) 2, .ne (.a 9) 1, .ne (.a 9) 0, .le (.a 8) 2147483647, .ge (.a 8) (-2147483648), .is (.a 0) 2, .ne (.a 0) 1]) : ArgJ val :=
  leaf h [(.c 0), (.c 0), (.c 0), (.c 0), (.c 0), (.c 0), (.c 0), (.c 0), (.c 0), (.c 0), (.c 0), (.c 2), (.c 0)] rfl (by kernel_rfl)

theorem argJ337 (val : Nat → Int) (h : Holds val [.ne (.a 5) 5, .ne (.a 5) 0, .is (.a 4) 0, .is (.a 3) 8, .ne (.a 3) 0, .is (.a 9) 32, .ne (.a 9) 16, .ne (.a 9) 8, .ne (.a 9) 4, .ne (.a 9) 2, .ne (.a 9) 1, .ne (.a 9) 0, .le (.a 8) 2147483647, .ge (.a 8) (-2147483648), .is (.a 0) 2, .ne (.a 0) 1]) : ArgJ val :=
  leaf h [(.c 0), (.c 0), (.c 0), (.c 0), (.c 0), (.c 0), (.c 0), (.c 0), (.c 0), (.c 0), (.c 0), (.c 2), (.c 0)] rfl (by kernel_rfl)

theorem argJ338 (val : Nat → Int) (h : Holds val [.ne (.a 4) 0, .is (.a 3) 8, .ne (.a 3) 0, .is (.a 9) 32, .ne (.a 9) 16, .ne (.a 9) 8, .ne (.a 9) 4, .ne (.a 9) 2, .ne (.a 9) 1, .ne (.a 9) 0, .le (.a 8) 2147483647, .ge (.a 8) (-2147483648), .is (.a 0) 2, .ne (.a 0) 1]) : ArgJ val :=
  leaf h [(.c 0), (.c 0), (.c 0), (.c 0), (.c 0), (.c 0), (.c 0), (.c 0), (.c 0), (.c 0), (.c 0), (.c 2), (.c 0)] rfl (by kernel_rfl)

theorem argJ339 (val : Nat → Int) (h : Holds val [.is (.a 7) 0, .is (.a 6) 0, .is (.a 5) 0, .le (.a 4) 15, .ge (.a 4) 0, .is (.a 3) 5, .ne (.a 3) 8, .ne (.a 3) 0, .is (.a 9) 32, .ne (.a 9) 16, .ne (.a 9) 8, .ne (.a 9) 4, .ne (.a 9) 2, .ne (.a 9) 1, .ne (.a 9) 0, .le (.a 8) 2147483647, .ge (.a 8) (-2147483648), .is (.a 0) 2, .ne (.a 0) 1]) : ArgJ val :=
  leaf h [(.a 0), (.c 0), (.c 0), (.a 3), (.a 4), (.a 5), (.a 6), (.a 7), (.a 8), (.a 9), (.c 0), (.c 0), (.a 9)] rfl (by kernel_rfl)

theorem argJ340 (val : Nat → Int) (h : Holds val [.ne (.a 7) 0, .is (.a 6) 0, .is (.a 5) 0, .le (.a 4) 15, .ge (.a 4) 0, .is (.a 3) 5, .ne (.a 3) 8, .ne (.a 3) 0, .is (.a 9) 32, .ne (.a 9) 16, .ne (.a 9) 8, .ne (.a 9) 4, .ne (.a 9) 2, .ne (.a 9) 1, .ne (.a 9) 0, .le (.a 8) 2147483647, .ge (.a 8) (-2147483648), .is (.a 0) 2, .ne (.a 0) 1]) : ArgJ val :=
  leaf h [(.c 0), (.c 0), (.c 0), (.c 0), (.c 0), (.c 0), (.c 0), (.c 0), (.c 0), (.c 0), (.c 0), (.c 2), (.c 0)] rfl (by kernel_rfl)

theorem argJ341 (val : Nat → Int) (h : Holds val [.ne (.a 6) 0, .is (.a 5) 0, .le (.a 4) 15, .ge (.a 4) 0, .is (.a 3) 5, .ne (.a 3) 8, .ne (.a 3) 0, .is (.a 9) 32, .ne (.a 9) 16, .ne (.a 9) 8, .ne (.a 9) 4, .ne (.a 9) 2, .ne (.a 9) 1, .ne (.a 9) 0, .le (.a 8) 2147483647, .ge (.a 8) (-2147483648), .is (.a 0) 2, .ne (.a 0) 1]) : ArgJ val :=
  leaf h [(.c 0), (.c 0), (.c 0), (.c 0), (.c 0), (.c 0), (.c 0), (.c 0), (.c 0), (.c 0), (.c 0), (.c 2), (.c 0)] rfl (by kernel_rfl)

theorem argJ342 (val : Nat → Int) (h : Holds val [.is (.a 4) 4, .is (.a 6) 4, .is (.a 7) 1, .le (.a 6) 15, .ge (.a 6) 0, .is (.a 5) 5, .ne (.a 5) 0, .le (.a 4) 15, .ge (.a 4) 0, .is (.a 3) 5, .ne (.a 3) 8, .ne (.a 3) 0, .is (.a 9) 32, .ne (.a 9) 16, .ne (.a 9) 8, .ne (.a 9) 4, .ne (.a 9) 2, .ne (.a 9) 1, .ne (.a 9) 0, .le (.a 8) 2147483647, .ge (.a 8) (-2147483648), .is (.a 0) 2, .ne (.a 0) 1]) : ArgJ val :=
  leaf h [(.c 0), (.c 0), (.c 0), (.c 0), (.c 0), (.c 0), (.c 0), (.c 0), (.c 0), (.c 0), (.c 0), (.c 2), (.c 0)] rfl (by kernel_rfl)

theorem argJ343 (val : Nat → Int) (h : Holds val [.ne (.a 4) 4, .is (.a 6) 4, .is (.a 7) 1, .le (.a 6) 15, .ge (.a 6) 0, .is (.a 5) 5, .ne (.a 5) 0, .le (.a 4) 15, .ge (.a 4) 0, .is (.a 3) 5, .ne (.a 3) 8, .ne (.a 3) 0, .is (.a 9) 32, .ne (.a 9) 16, .ne (.a 9) 8, .ne (.a 9) 4, .ne (.a 9) 2, .ne (.a 9) 1, .ne (.a 9) 0, .le (.a 8) 2147483647, .ge (.a 8) (-2147483648), .is (.a 0) 2, .ne (.a 0) 1]) : ArgJ val :=
  leaf h [(.a 0), (.c 0), (.c 0), (.a 5), (.a 6), (.a 3), (.a 4), (.a 7), (.a 8), (.a 9), (.c 0), (.c 0), (.a 9)] rfl (by kernel_rfl)

theorem argJ344 (val : Nat → Int) (h : Holds val [.ne (.a 6) 4, .is (.a 7) 1, .le (.a 6) 15, .ge (.a 6) 0, .is (.a 5) 5, .ne (.a 5) 0, .le (.a 4) 15, .ge (.a 4) 0, .is (.a 3) 5, .ne (.a 3) 8, .ne (.a 3) 0, .is (.a 9) 32, .ne (.a 9) 16, .ne (.a 9) 8, .ne (.a 9) 4, .ne (.a 9) 2, .ne (.a 9) 1, .ne (.a 9) 0, .le (.a 8) 2147483647, .ge (.a 8) (-2147483648), .is (.a 0) 2, .ne (.a 0) 1]) : ArgJ val :=
  leaf h [(.a 0), (.c 0), (.c 0), (.a 3), (.a 4), (.a 5), (.a 6), (.a 7), (.a 8), (.a 9), (.c 0), (.c 0), (.a 9)] rfl (by kernel_rfl)

theorem argJ345 (val : Nat → Int) (h : Holds val [.is (.a 6) 4, .is (.a 7) 2, .ne (.a 7) 1, .le (.a 6) 15, .ge (.a 6) 0, .is (.a 5) 5, .ne (.a 5) 0, .le (.a 4) 15, .ge (.a 4) 0, .is (.a 3) 5, .ne (.a 3) 8, .ne (.a 3) 0, .is (.a 9) 32, .ne (.a 9) 16, .ne (.a 9) 8, .ne (.a 9) 4, .ne (.a 9) 2, .ne (.a 9) 1, .ne (.a 9) 0, .le (.a 8) 2147483647, .ge (.a 8) (-2147483648), .is (.a 0) 2, .ne (.a 0) 1]) : ArgJ val :=
  leaf h [(.c 0), (.c 0), (.c 0), (.c 0), (.c 0), (.c 0), (.c 0), (.c 0), (.c 0), (.c 0), (.c 0), (.c 2), (.c 0)] rfl (by kernel_rfl)

theorem argJ346 (val : Nat → Int) (h : Holds val [.ne (.a 6) 4, .is (.a 7) 2, .ne (.a 7) 1, .le (.a 6) 15, .ge (.a 6) 0, .is (.a 5) 5, .ne (.a 5) 0, .le (.a 4) 15, .ge (.a 4) 0, .is (.a 3) 5, .ne (.a 3) 8, .ne (.a 3) 0, .is (.a 9) 32, .ne (.a 9) 16, .ne (.a 9) 8, .ne (.a 9) 4, .ne (.a 9) 2, .ne (.a 9) 1, .ne (.a 9) 0, .le (.a 8) 2147483647, .ge (.a 8) (-2147483648), .is (.a 0) 2, .ne (.a 0) 1]) : ArgJ val :=
  leaf h [(.a 0), (.c 0), (.c 0), (.a 3), (.a 4), (.a 5), (.a 6), (.a 7), (.a 8), (.a 9), (.c 0), (.c 0), (.a 9)] rfl (by kernel_rfl)

theorem argJ347 (val : Nat → Int) (h : Holds val [.is (.a 6) 4, .is (.a 7) 4, .ne (.a 7) 2, .ne (.a 7) 1, .le (.a 6) 15, .ge (.a 6) 0, .is (.a 5) 5, .ne (.a 5) 0, .le (.a 4) 15, .ge (.a 4) 0, .is (.a 3) 5, .ne (.a 3) 8, .ne (.a 3) 0, .is (.a 9) 32, .ne (.a 9) 16, .ne (.a 9) 8, .ne (.a 9) 4, .ne (.a 9) 2, .ne (.a 9) 1, .ne (.a 9) 0, .le (.a 8) 2147483647, .ge (.a 8) (-2147483648), .is (.a 0) 2, .ne (.a 0) 1]) : ArgJ val :=
  leaf h [(.c 0), (.c 0), (.c 0), (.c 0), (.c 0), (.c 0), (.c 0), (.c 0), (.c 0), (.c 0), (.c 0), (.c 2), (.c 0)] rfl (by kernel_rfl)

theorem argJ348 (val : Nat → Int) (h : Holds val [.ne (.a 6) 4, .is (.a 7) 4, .ne (.a 7) 2, .ne (.a 7) 1, .le (.a 6) 15, .ge (.a 6) 0, .is (.a 5) 5, .ne (.a 5) 0, .le (.a 4) 15, .ge (.a 4) 0, .is (.a 3) 5, .ne (.a 3) 8, .ne (.a 3) 0, .is (.a 9) 32, .ne (.a 9) 16, .ne (.a 9) 8, .ne (.a 9) 4, .ne (.a 9) 2, .ne (.a 9) 1, .ne (.a 9) 0, .le (.a 8) 2147483647, .ge (.a 8) (-2147483648), .is (.a 0) 2, .ne (.a 0) 1]) : ArgJ val :=
  leaf h [(.a 0), (.c 0), (.c 0), (.a 3), (.a 4), (.a 5), (.a 6), (.a 7), (.a 8), (.a 9), (.c 0), (.c 0), (.a 9)] rfl (by kernel_rfl)

theorem argJ349 (val : Nat → Int) (h : Holds val [.is (.a 6) 4, .is (.a 7) 8, .ne (.a 7) 4, .ne (.a 7) 2, .ne (.a 7) 1, .le (.a 6) 15, .ge (.a 6) 0, .is (.a 5) 5, .ne (.a 5) 0, .le (.a 4) 15, .ge (.a 4) 0, .is (.a 3) 5, .ne (.a 3) 8, .ne (.a 3) 0, .is (.a 9) 32, .ne (.a 9) 16, .ne (.a 9) 8, .ne (.a 9) 4, .ne (.a 9) 2, .ne (.a 9) 1, .ne (.a 9) 0, .le (.a 8) 2147483647, .ge (.a 8) (-2147483648), .is (.a 0) 2, .ne (.a 0) 1]) : ArgJ val :=
  leaf h [(.c 0), (.c 0), (.c 0), (.c 0), (.c 0), (.c 0), (.c 0), (.c 0), (.c 0), (.c 0), (.c 0), (.c 2), (.c 0)] rfl (by kernel_rfl)

theorem argJ350 (val : Nat → Int) (h : Holds val [.ne (.a 6) 4, .is (.a 7) 8, .ne (.a 7) 4, .ne (.a 7) 2, .ne (.a 7) 1, .le (.a 6) 15, .ge (.a 6) 0, .is (.a 5) 5, .ne (.a 5) 0, .le (.a 4) 15, .ge (.a 4) 0, .is (.a 3) 5, .ne (.a 3) 8, .ne (.a 3) 0, .is (.a 9) 32, .ne (.a 9) 16, .ne (.a 9) 8, .ne (.a 9) 4, .ne (.a 9) 2, .ne (.a 9) 1, .ne (.a 9) 0, .le (.a 8) 2147483647, .ge (.a 8) (-2147483648), .is (.a 0) 2, .ne (.a 0) 1]) : ArgJ val :=
  leaf h [(.a 0), (.c 0), (.c 0), (.a 3), (.a 4), (.a 5), (.a 6), (.a 7), (.a 8), (.a 9), (.c 0), (.c 0), (.a 9)] rfl (by kernel_rfl)

theorem argJ351 (val : Nat → Int) (h : Holds val [.ne (.a 7) 8, .ne (.a 7) 4, .ne (.a 7) 2, .ne (.a 7) 1, .le (.a 6) 15, .ge (.a 6) 0, .is (.a 5) 5, .ne (.a 5) 0, .le (.a 4) 15, .ge (.a 4) 0, .is (.a 3) 5, .ne (.a 3) 8, .ne (.a 3) 0, .is (.a 9) 32, .ne (.a 9) 16, .ne (.a 9) 8, .ne (.a 9) 4, .ne (.a 9) 2, .ne (.a 9) 1, .ne (.a 9) 0, .le (.a 8) 2147483647, .ge (.a 8) (-2147483648), .is (.a 0) 2, .ne (.a 0) 1]) : ArgJ val :=
  leaf h [(.c 0), (.c 0), (.c 0), (.c 0), (.c 0), (.c 0), (.c 0), (.c 0), (.c 0), (.c 0), (.c 0), (.c 2), (.c 0)] rfl (by kernel_rfl)

theorem argJ352 (val : Nat → Int) (h : Holds val [.ge (.a 6) 16, .ge (.a 6) 0, .is (.a 5) 5, .ne (.a 5) 0, .le (.a 4) 15, .ge (.a 4) 0, .is (.a 3) 5, .ne (.a 3) 8, .ne (.a 3) 0, .is (.a 9) 32, .ne (.a 9) 16, .ne (.a 9) 8, .ne (.a 9) 4, .ne (.a 9) 2, .ne (.a 9) 1, .ne (.a 9) 0, .le (.a 8) 2147483647, .ge (.a 8) (-2147483648), .is (.a 0) 2, .ne (.a 0) 1]) : ArgJ val :=
  leaf h [(.c 0), (.c 0), (.c 0), (.c 0), (.c 0), (.c 0), (.c 0), (.c 0), (.c 0), (.c 0), (.c 0), (.c 2), (.c 0)] rfl (by kernel_rfl)

theorem argJ353 (val : Nat → Int) (h : Holds val [.le (.a 6) (-1), .is (.a 5) 5, .ne (.a 5) 0, .le (.a 4) 15, .ge (.a 4) 0, .is (.a 3) 5, .ne (.a 3) 8, .ne (.a 3) 0, .is (.a 9) 32, .ne (.a 9) 16, .ne (.a 9) 8, .ne (.a 9) 4, .ne (.a 9) 2, .ne (.a 9) 1, .ne (.a 9) 0, .le (.a 8) 2147483647, .ge (.a 8) (-2147483648), .is (.a 0) 2, .ne (.a 0) 1]) : ArgJ val :=
  leaf h [(.c 0), (.c 0), (.c 0), (.c 0), (.c 0), (.c 0), (.c 0), (.c 0), (.c 0), (.c 0), (.c 0), (.c 2), (.c 0)] rfl (by kernel_rfl)

theorem argJ354 (val : Nat → Int) (h : Holds val [.ne (.a 5) 5, .ne (.a 5) 0, .le (.a 4) 15, .ge (.a 4) 0, .is (.a 3) 5, .ne (.a 3) 8, .ne (.a 3) 0, .is (.a 9) 32, .ne (.a 9) 16, .ne (.a 9) 8, .ne (.a 9) 4, .ne (.a 9) 2, .ne (.a 9) 1, .ne (.a 9) 0, .le (.a 8) 2147483647, .ge (.a 8) (-2147483648), .is (.a 0) 2, .ne (.a 0) 1]) : ArgJ val :=
  leaf h [(.c 0), (.c 0), (.c 0), (.c 0), (.c 0), (.c 0), (.c 0), (.c 0), (.c 0), (.c 0), (.c 0), (.c 2), (.c 0)] rfl (by kernel_rfl)

theorem argJ355 (val : Nat → Int) (h : Holds val [.ge (.a 4) 16, .ge (.a 4) 0, .is (.a 3) 5, .ne (.a 3) 8, .ne (.a 3) 0, .is (.a 9) 32, .ne (.a 9) 16, .ne (.a 9) 8, .ne (.a 9) 4, .ne (.a 9) 2, .ne (.a 9) 1, .ne (.a 9) 0, .le (.a 8) 2147483647, .ge (.a 8) (-2147483648), .is (.a 0) 2, .ne (.a 0) 1]) : ArgJ val :=
  leaf h [(.c 0), (.c 0), (.c 0), (.c 0), (.c 0), (.c 0), (.c 0), (.c 0), (.c 0), (.c 0), (.c 0), (.c 2), (.c 0)] rfl (by kernel_rfl)

theorem argJ356 (val : Nat → Int) (h : Holds val [.le (.a 4) (-1), .is (.a 3) 5, .ne (.a 3) 8, .ne (.a 3) 0, .is (.a 9) 32, .ne (.a 9) 16, .ne (.a 9) 8, .ne (.a 9) 4, .ne (.a 9) 2, .ne (.a 9) 1, .ne (.a 9) 0, .le (.a 8) 2147483647, .ge (.a 8) (-2147483648), .is (.a 0) 2, .ne (.a 0) 1]) : ArgJ val :=
  leaf h [(.c 0), (.c 0), (.c 0), (.c 0), (.c 0), (.c 0), (.c 0), (.c 0), (.c 0), (.c 0), (.c 0), (.c 2), (.c 0)] rfl (by kernel_rfl)

theorem argJ357 (val : Nat → Int) (h : Holds val [.ne (.a 3) 5, .ne (.a 3) 8, .ne (.a 3) 0, .is (.a 9) 32, .ne (.a 9) 16, .ne (.a 9) 8, .ne (.a 9) 4, .ne (.a 9) 2, .ne (.a 9) 1, .ne (.a 9) 0, .le (.a 8) 2147483647, .ge (.a 8) (-2147483648), .is (.a 0) 2, .ne (.a 0) 1]) : ArgJ val :=
  leaf h [(.c 0), (.c 0), (.c 0), (.c 0), (.c 0), (.c 0), (.c 0), (.c 0), (.c 0), (.c 0), (.c 0), (.c 2), (.c 0)] rfl (by kernel_rfl)

theorem argJ358 (val : Nat → Int) (h : Holds val [.ne (.a 9) 32, .ne (.a 9) 16, .ne (.a 9) 8, .ne (.a 9) 4, .ne (.a 9) 2, .ne (.a 9) 1, .ne (.a 9) 0, .le (.a 8) 2147483647, .ge (.a 8) (-2147483648), .is (.a 0) 2, .ne (.a 0) 1]) : ArgJ val :=
  leaf h [(.c 0), (.c 0), (.c 0), (.c 0), (.c 0), (.c 0), (.c 0), (.c 0), (.c 0), (.c 0), (.c 0), (.c 2), (.c 0)] rfl (by kernel_rfl)

theorem argJ359 (val : Nat → Int) (h : Holds val [.is (.a 0) 3, .ne (.a 0) 2, .ne (.a 0) 1]) : ArgJ val :=
  leaf h [(.a 0), (.c 0), (.c 0), (.c 0), (.c 0), (.c 0), (.c 0), (.c 0), (.c 0), (.c 0), (.a 10), (.c 0), (.c 0)] rfl (by kernel_rfl)

theorem argJ360 (val : Nat → Int) (h : Holds val [.le (.a 10) (-2147483649), .is (.a 0) 4, .ne (.a 0) 3, .ne (.a 0) 2, .ne (.a 0) 1]) : ArgJ val :=
  leaf h [(.c 0), (.c 0), (.c 0), (.c 0), (.c 0), (.c 0), (.c 0), (.c 0), (.c 0), (.c 0), (.c 0), (.c 5), (.c 0)] rfl (by kernel_rfl)

theorem argJ361 (val : Nat → Int) (h : Holds val [.ge (.a 10) 2147483648, .ge (.a 10) (-2147483648), .is (.a 0) 4, .ne (.a 0) 3, .ne (.a 0) 2, .ne (.a 0) 1]) : ArgJ val :=
  leaf h [(.c 0), (.c 0), (.c 0), (.c 0), (.c 0), (.c 0), (.c 0), (.c 0), (.c 0), (.c 0), (.c 0), (.c 5), (.c 0)] rfl (by kernel_rfl)

theorem argJ362 (val : Nat → Int) (h : Holds val [.le (.a 10) 2147483647, .ge (.a 10) (-2147483648), .is (.a 0) 4, .ne (.a 0) 3, .ne (.a 0) 2, .ne (.a 0) 1]) : ArgJ val :=
  leaf h [(.a 0), (.c 0), (.c 0), (.c 0), (.c 0), (.c 0), (.c 0), (.c 0), (.c 0), (.c 0), (.a 10), (.c 0), (.c 0)] rfl (by kernel_rfl)

theorem argJ363 (val : Nat → Int) (h : Holds val [.ne (.a 0) 4, .ne (.a 0) 3, .ne (.a 0) 2, .ne (.a 0) 1]) : ArgJ val :=
  leaf h [(.c 0), (.c 0), (.c 0), (.c 0), (.c 0), (.c 0), (.c 0), (.c 0), (.c 0), (.c 0), (.c 0), (.c 2), (.c 0)] rfl (by kernel_rfl)

end Go.Proofs.Ytclhjdddakmafaa.Tab
