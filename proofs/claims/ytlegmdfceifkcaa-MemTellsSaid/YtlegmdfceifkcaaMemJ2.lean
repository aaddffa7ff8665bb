/-
  Ways through the code, part 2.
-/
import Derived.Test.YtlegmdfceifkcaaMemJH
namespace Go.Proofs.Ytlegmdfceifkcaa.Tab
open Go.Sim
set_option maxRecDepth 100000

theorem memJ222 (val : Nat → Int) (h : Holds val [.ne (.a 1) 4, .is (.a 3) 4, .is (.a 4) 1, .le (.a 3) 15, .ge (.a 3) 0, .is (.a 2) 5, .ne (.a 2) 0, .le (.a 1) 15, .ge (.a 1) 0, .is (.a 0) 5, .ne (.a 0) 8, .ne (.a 0) 0, .is (.a 6) 8, .ne (.a 6) 4, .ne (.a 6) 2, .ne (.a 6) 1, .ne (.a 6) 0, .le (.a 5) 2147483647, .ge (.a 5) (-2147483648)]) : MemJ val :=
  leaf h [(.a 2), (.a 3), (.a 0), (.a 1), (.a 4), (.a 5), (.a 6), (.c 0)] rfl (by kernel_rfl)

theorem memJ223 (val : Nat → Int) (h : Holds val [.ne (.a 3) 4, .is (.a 4) 1, .le (.a 3) 15, .ge (.a 3) 0, .is (.a 2) 5, .ne (.a 2) 0, .le (.a 1) 15, .ge (.a 1) 0, .is (.a 0) 5, .ne (.a 0) 8, .ne (.a 0) 0, .is (.a 6) 8, .ne (.a 6) 4, .ne (.a 6) 2, .ne (.a 6) 1, .ne (.a 6) 0, .le (.a 5) 2147483647, .ge (.a 5) (-2147483648)]) : MemJ val :=
  leaf h [(.a 0), (.a 1), (.a 2), (.a 3), (.a 4), (.a 5), (.a 6), (.c 0)] rfl (by kernel_rfl)

theorem memJ224 (val : Nat → Int) (h : Holds val [.is (.a 3) 4, .is (.a 4) 2, .ne (.a 4) 1, .le (.a 3) 15, .ge (.a 3) 0, .is (.a 2) 5, .ne (.a 2) 0, .le (.a 1) 15, .ge (.a 1) 0, .is (.a 0) 5, .ne (.a 0) 8, .ne (.a 0) 0, .is (.a 6) 8, .ne (.a 6) 4, .ne (.a 6) 2, .ne (.a 6) 1, .ne (.a 6) 0, .le (.a 5) 2147483647, .ge (.a 5) (-2147483648)]) : MemJ val :=
  leaf h [(.c 0), (.c 0), (.c 0), (.c 0), (.c 0), (.c 0), (.c 0), (.c 2)] rfl (by kernel_rfl)

theorem memJ225 (val : Nat → Int) (h : Holds val [.ne (.a 3) 4, .is (.a 4) 2, .ne (.a 4) 1, .le (.a 3) 15, .ge (.a 3) 0, .is (.a 2) 5, .ne (.a 2) 0, .le (.a 1) 15, .ge (.a 1) 0, .is (.a 0) 5, .ne (.a 0) 8, .ne (.a 0) 0, .is (.a 6) 8, .ne (.a 6) 4, .ne (.a 6) 2, .ne (.a 6) 1, .ne (.a 6) 0, .le (.a 5) 2147483647, .ge (.a 5) (-2147483648)]) : MemJ val :=
  leaf h [(.a 0), (.a 1), (.a 2), (.a 3), (.a 4), (.a 5), (.a 6), (.c 0)] rfl (by kernel_rfl)

theorem memJ226 (val : Nat → Int) (h : Holds val [.is (.a 3) 4, .is (.a 4) 4, .ne (.a 4) 2, .ne (.a 4) 1, .le (.a 3) 15, .ge (.a 3) 0, .is (.a 2) 5, .ne (.a 2) 0, .le (.a 1) 15, .ge (.a 1) 0, .is (.a 0) 5, .ne (.a 0) 8, .ne (.a 0) 0, .is (.a 6) 8, .ne (.a 6) 4, .ne (.a 6) 2, .ne (.a 6) 1, .ne (.a 6) 0, .le (.a 5) 2147483647, .ge (.a 5) (-2147483648)]) : MemJ val :=
  leaf h [(.c 0), (.c 0), (.c 0), (.c 0), (.c 0), (.c 0), (.c 0), (.c 2)] rfl (by kernel_rfl)

theorem memJ227 (val : Nat → Int) (h : Holds val [.ne (.a 3) 4, .is (.a 4) 4, .ne (.a 4) 2, .ne (.a 4) 1, .le (.a 3) 15, .ge (.a 3) 0, .is (.a 2) 5, .ne (.a 2) 0, .le (.a 1) 15, .ge (.a 1) 0, .is (.a 0) 5, .ne (.a 0) 8, .ne (.a 0) 0, .is (.a 6) 8, .ne (.a 6) 4, .ne (.a 6) 2, .ne (.a 6) 1, .ne (.a 6) 0, .le (.a 5) 2147483647, .ge (.a 5) (-2147483648)]) : MemJ val :=
  leaf h [(.a 0), (.a 1), (.a 2), (.a 3), (.a 4), (.a 5), (.a 6), (.c 0)] rfl (by kernel_rfl)

theorem memJ228 (val : Nat → Int) (h : Holds val [.is (.a 3) 4, .is (.a 4) 8, .ne (.a 4) 4, .ne (.a 4) 2, .ne (.a 4) 1, .le (.a 3) 15, .ge (.a 3) 0, .is (.a 2) 5, .ne (.a 2) 0, .le (.a 1) 15, .ge (.a 1) 0, .is (.a 0) 5, .ne (.a 0) 8, .ne (.a 0) 0, .is (.a 6) 8, .ne (.a 6) 4, .ne (.a 6) 2, .ne (.a 6) 1, .ne (.a 6) 0, .le (.a 5) 2147483647, .ge (.a 5) (-2147483648)]) : MemJ val :=
  leaf h [(.c 0), (.c 0), (.c 0), (.c 0), (.c 0), (.c 0), (.c 0), (.c 2)] rfl (by kernel_rfl)

theorem memJ229 (val : Nat → Int) (h : Holds val [.ne (.a 3) 4, .is (.a 4) 8, .ne (.a 4) 4, .ne (.a 4) 2, .ne (.a 4) 1, .le (.a 3) 15, .ge (.a 3) 0, .is (.a 2) 5, .ne (.a 2) 0, .le (.a 1) 15, .ge (.a 1) 0, .is (.a 0) 5, .ne (.a 0) 8, .ne (.a 0) 0, .is (.a 6) 8, .ne (.a 6) 4, .ne (.a 6) 2, .ne (.a 6) 1, .ne (.a 6) 0, .le (.a 5) 2147483647, .ge (.a 5) (-2147483648)]) : MemJ val :=
  leaf h [(.a 0), (.a 1), (.a 2), (.a 3), (.a 4), (.a 5), (.a 6), (.c 0)] rfl (by kernel_rfl)

theorem memJ230 (val : Nat → Int) (h : Holds val [.ne (.a 4) 8, .ne (.a 4) 4, .ne (.a 4) 2, .ne (.a 4) 1, .le (.a 3) 15, .ge (.a 3) 0, .is (.a 2) 5, .ne (.a 2) 0, .le (.a 1) 15, .ge (.a 1) 0, .is (.a 0) 5, .ne (.a 0) 8, .ne (.a 0) 0, .is (.a 6) 8, .ne (.a 6) 4, .ne (.a 6) 2, .ne (.a 6) 1, .ne (.a 6) 0, .le (.a 5) 2147483647, .ge (.a 5) (-2147483648)]) : MemJ val :=
  leaf h [(.c 0), (.c 0), (.c 0), (.c 0), (.c 0), (.c 0), (.c 0), (.c 2)] rfl (by kernel_rfl)

theorem memJ231 (val : Nat → Int) (h : Holds val [.ge (.a 3) 16, .ge (.a 3) 0, .is (.a 2) 5, .ne (.a 2) 0, .le (.a 1) 15, .ge (.a 1) 0, .is (.a 0) 5, .ne (.a 0) 8, .ne (.a 0) 0, .is (.a 6) 8, .ne (.a 6) 4, .ne (.a 6) 2, .ne (.a 6) 1, .ne (.a 6) 0, .le (.a 5) 2147483647, .ge (.a 5) (-2147483648)]) : MemJ val :=
  leaf h [(.c 0), (.c 0), (.c 0), (.c 0), (.c 0), (.c 0), (.c 0), (.c 2)] rfl (by kernel_rfl)

theorem memJ232 (val : Nat → Int) (h : Holds val [.le (.a 3) (-1), .is (.a 2) 5, .ne (.a 2) 0, .le (.a 1) 15, .ge (.a 1) 0, .is (.a 0) 5, .ne (.a 0) 8, .ne (.a 0) 0, .is (.a 6) 8, .ne (.a 6) 4, .ne (.a 6) 2, .ne (.a 6) 1, .ne (.a 6) 0, .le (.a 5) 2147483647, .ge (.a 5) (-2147483648)]) : MemJ val :=
  leaf h [(.c 0), (.c 0), (.c 0), (.c 0), (.c 0), (.c 0), (.c 0), (.c 2)] rfl (by kernel_rfl)

theorem memJ233 (val : Nat → Int) (h : Holds val [.ne (.a 2) 5, .ne (.a 2) 0, .le (.a 1) 15, .ge (.a 1) 0, .is (.a 0) 5, .ne (.a 0) 8, .ne (.a 0) 0, .is (.a 6) 8, .ne (.a 6) 4, .ne (.a 6) 2, .ne (.a 6) 1, .ne (.a 6) 0, .le (.a 5) 2147483647, .ge (.a 5) (-2147483648)]) : MemJ val :=
  leaf h [(.c 0), (.c 0), (.c 0), (.c 0), (.c 0), (.c 0), (.c 0), (.c 2)] rfl (by kernel_rfl)

theorem memJ234 (val : Nat → Int) (h : Holds val [.ge (.a 1) 16, .ge (.a 1) 0, .is (.a 0) 5, .ne (.a 0) 8, .ne (.a 0) 0, .is (.a 6) 8, .ne (.a 6) 4, .ne (.a 6) 2, .ne (.a 6) 1, .ne (.a 6) 0, .le (.a 5) 2147483647, .ge (.a 5) (-2147483648)]) : MemJ val :=
  leaf h [(.c 0), (.c 0), (.c 0), (.c 0), (.c 0), (.c 0), (.c 0), (.c 2)] rfl (by kernel_rfl)

theorem memJ235 (val : Nat → Int) (h : Holds val [.le (.a 1) (-1), .is (.a 0) 5, .ne (.a 0) 8, .ne (.a 0) 0, .is (.a 6) 8, .ne (.a 6) 4, .ne (.a 6) 2, .ne (.a 6) 1, .ne (.a 6) 0, .le (.a 5) 2147483647, .ge (.a 5) (-2147483648)]) : MemJ val :=
  leaf h [(.c 0), (.c 0), (.c 0), (.c 0), (.c 0), (.c 0), (.c 0), (.c 2)] rfl (by kernel_rfl)

theorem memJ236 (val : Nat → Int) (h : Holds val [.ne (.a 0) 5, .ne (.a 0) 8, .ne (.a 0) 0, .is (.a 6) 8, .ne (.a 6) 4, .ne (.a 6) 2, .ne (.a 6) 1, .ne (.a 6) 0, .le (.a 5) 2147483647, .ge (.a 5) (-2147483648)]) : MemJ val :=
  leaf h [(.c 0), (.c 0), (.c 0), (.c 0), (.c 0), (.c 0), (.c 0), (.c 2)] rfl (by kernel_rfl)

theorem memJ237 (val : Nat → Int) (h : Holds val [.is (.a 4) 0, .is (.a 3) 0, .is (.a 2) 0, .is (.a 1) 0, .is (.a 0) 0, .is (.a 6) 16, .ne (.a 6) 8, .ne (.a 6) 4, .ne (.a 6) 2, .ne (.a 6) 1, .ne (.a 6) 0, .le (.a 5) 2147483647, .ge (.a 5) (-2147483648)]) : MemJ val :=
  leaf h [(.a 0), (.a 1), (.a 2), (.a 3), (.a 4), (.a 5), (.a 6), (.c 0)] rfl (by kernel_rfl)

theorem memJ238 (val : Nat → Int) (h : Holds val [.ne (.a 4) 0, .is (.a 3) 0, .is (.a 2) 0, .is (.a 1) 0, .is (.a 0) 0, .is (.a 6) 16, .ne (.a 6) 8, .ne (.a 6) 4, .ne (.a 6) 2, .ne (.a 6) 1, .ne (.a 6) 0, .le (.a 5) 2147483647, .ge (.a 5) (-2147483648)]) : MemJ val :=
  leaf h [(.c 0), (.c 0), (.c 0), (.c 0), (.c 0), (.c 0), (.c 0), (.c 2)] rfl (by kernel_rfl)

theorem memJ239 (val : Nat → Int) (h : Holds val [.ne (.a 3) 0, .is (.a 2) 0, .is (.a 1) 0, .is (.a 0) 0, .is (.a 6) 16, .ne (.a 6) 8, .ne (.a 6) 4, .ne (.a 6) 2, .ne (.a 6) 1, .ne (.a 6) 0, .le (.a 5) 2147483647, .ge (.a 5) (-2147483648)]) : MemJ val :=
  leaf h [(.c 0), (.c 0), (.c 0), (.c 0), (.c 0), (.c 0), (.c 0), (.c 2)] rfl (by kernel_rfl)

theorem memJ240 (val : Nat → Int) (h : Holds val [.is (.a 3) 4, .is (.a 4) 1, .le (.a 3) 15, .ge (.a 3) 0, .is (.a 2) 5, .ne (.a 2) 0, .is (.a 1) 0, .is (.a 0) 0, .is (.a 6) 16, .ne (.a 6) 8, .ne (.a 6) 4, .ne (.a 6) 2, .ne (.a 6) 1, .ne (.a 6) 0, .le (.a 5) 2147483647, .ge (.a 5) (-2147483648)]) : MemJ val :=
  leaf h [(.a 2), (.a 3), (.c 0), (.c 0), (.c 0), (.a 5), (.a 6), (.c 0)] rfl (by kernel_rfl)

theorem memJ241 (val : Nat → Int) (h : Holds val [.ne (.a 3) 4, .is (.a 4) 1, .le (.a 3) 15, .ge (.a 3) 0, .is (.a 2) 5, .ne (.a 2) 0, .is (.a 1) 0, .is (.a 0) 0, .is (.a 6) 16, .ne (.a 6) 8, .ne (.a 6) 4, .ne (.a 6) 2, .ne (.a 6) 1, .ne (.a 6) 0, .le (.a 5) 2147483647, .ge (.a 5) (-2147483648)]) : MemJ val :=
  leaf h [(.a 2), (.a 3), (.c 0), (.c 0), (.c 0), (.a 5), (.a 6), (.c 0)] rfl (by kernel_rfl)

theorem memJ242 (val : Nat → Int) (h : Holds val [.is (.a 3) 4, .is (.a 4) 2, .ne (.a 4) 1, .le (.a 3) 15, .ge (.a 3) 0, .is (.a 2) 5, .ne (.a 2) 0, .is (.a 1) 0, .is (.a 0) 0, .is (.a 6) 16, .ne (.a 6) 8, .ne (.a 6) 4, .ne (.a 6) 2, .ne (.a 6) 1, .ne (.a 6) 0, .le (.a 5) 2147483647, .ge (.a 5) (-2147483648)]) : MemJ val :=
  leaf h [(.c 0), (.c 0), (.c 0), (.c 0), (.c 0), (.c 0), (.c 0), (.c 2)] rfl (by kernel_rfl)

theorem memJ243 (val : Nat → Int) (h : Holds val [.ne (.a 3) 4, .is (.a 4) 2, .ne (.a 4) 1, .le (.a 3) 15, .ge (.a 3) 0, .is (.a 2) 5, .ne (.a 2) 0, .is (.a 1) 0, .is (.a 0) 0, .is (.a 6) 16, .ne (.a 6) 8, .ne (.a 6) 4, .ne (.a 6) 2, .ne (.a 6) 1, .ne (.a 6) 0, .le (.a 5) 2147483647, .ge (.a 5) (-2147483648)]) : MemJ val :=
  leaf h [(.a 0), (.a 1), (.a 2), (.a 3), (.a 4), (.a 5), (.a 6), (.c 0)] rfl (by kernel_rfl)

theorem memJ244 (val : Nat → Int) (h : Holds val [.is (.a 3) 4, .is (.a 4) 4, .ne (.a 4) 2, .ne (.a 4) 1, .le (.a 3) 15, .ge (.a 3) 0, .is (.a 2) 5, .ne (.a 2) 0, .is (.a 1) 0, .is (.a 0) 0, .is (.a 6) 16, .ne (.a 6) 8, .ne (.a 6) 4, .ne (.a 6) 2, .ne (.a 6) 1, .ne (.a 6) 0, .le (.a 5) 2147483647, .ge (.a 5) (-2147483648)]) : MemJ val :=
  leaf h [(.c 0), (.c 0), (.c 0), (.c 0), (.c 0), (.c 0), (.c 0), (.c 2)] rfl (by kernel_rfl)

theorem memJ245 (val : Nat → Int) (h : Holds val [.ne (.a 3) 4, .is (.a 4) 4, .ne (.a 4) 2, .ne (.a 4) 1, .le (.a 3) 15, .ge (.a 3) 0, .is (.a 2) 5, .ne (.a 2) 0, .is (.a 1) 0, .is (.a 0) 0, .is (.a 6) 16, .ne (.a 6) 8, .ne (.a 6) 4, .ne (.a 6) 2, .ne (.a 6) 1, .ne (.a 6) 0, .le (.a 5) 2147483647, .ge (.a 5) (-2147483648)]) : MemJ val :=
  leaf h [(.a 0), (.a 1), (.a 2), (.a 3), (.a 4), (.a 5), (.a 6), (.c 0)] rfl (by kernel_rfl)

theorem memJ246 (val : Nat → Int) (h : Holds val [.is (.a 3) 4, .is (.a 4) 8, .ne (.a 4) 4, .ne (.a 4) 2, .ne (.a 4) 1, .le (.a 3) 15, .ge (.a 3) 0, .is (.a 2) 5, .ne (.a 2) 0, .is (.a 1) 0, .is (.a 0) 0, .is (.a 6) 16, .ne (.a 6) 8, .ne (.a 6) 4, .ne (.a 6) 2, .ne (.a 6) 1, .ne (.a 6) 0, .le (.a 5) 2147483647, .ge (.a 5) (-2147483648)]) : MemJ val :=
  leaf h [(.c 0), (.c 0), (.c 0), (.c 0), (.c 0), (.c 0), (.c 0), (.c 2)] rfl (by kernel_rfl)

theorem memJ247 (val : Nat → Int) (h : Holds val [.ne (.a 3) 4, .is (.a 4) 8, .ne (.a 4) 4, .ne (.a 4) 2, .ne (.a 4) 1, .le (.a 3) 15, .ge (.a 3) 0, .is (.a 2) 5, .ne (.a 2) 0, .is (.a 1) 0, .is (.a 0) 0, .is (.a 6) 16, .ne (.a 6) 8, .ne (.a 6) 4, .ne (.a 6) 2, .ne (.a 6) 1, .ne (.a 6) 0, .le (.a 5) 2147483647, .ge (.a 5) (-2147483648)]) : MemJ val :=
  leaf h [(.a 0), (.a 1), (.a 2), (.a 3), (.a 4), (.a 5), (.a 6), (.c 0)] rfl (by kernel_rfl)

theorem memJ248 (val : Nat → Int) (h : Holds val [.ne (.a 4) 8, .ne (.a 4) 4, .ne (.a 4) 2, .ne (.a 4) 1, .le (.a 3) 15, .ge (.a 3) 0, .is (.a 2) 5, .ne (.a 2) 0, .is (.a 1) 0, .is (.a 0) 0, .is (.a 6) 16, .ne (.a 6) 8, .ne (.a 6) 4, .ne (.a 6) 2, .ne (.a 6) 1, .ne (.a 6) 0, .le (.a 5) 2147483647, .ge (.a 5) (-2147483648)]) : MemJ val :=
  leaf h [(.c 0), (.c 0), (.c 0), (.c 0), (.c 0), (.c 0), (.c 0), (.c 2)] rfl (by kernel_rfl)

theorem memJ249 (val : Nat → Int) (h : Holds val [.ge (.a 3) 16, .ge (.a 3) 0, .is (.a 2) 5, .ne (.a 2) 0, .is (.a 1) 0, .is (.a 0) 0, .is (.a 6) 16, .ne (.a 6) 8, .ne (.a 6) 4, .ne (.a 6) 2, .ne (.a 6) 1, .ne (.a 6) 0, .le (.a 5) 2147483647, .ge (.a 5) (-2147483648)]) : MemJ val :=
  leaf h [(.c 0), (.c 0), (.c 0), (.c 0), (.c 0), (.c 0), (.c 0), (.c 2)] rfl (by kernel_rfl)

theorem memJ250 (val : Nat → Int) (h : Holds val [.le (.a 3) (-1), .is (.a 2) 5, .ne (.a 2) 0, .is (.a 1) 0, .is (.a 0) 0, .is (.a 6) 16, .ne (.a 6) 8, .ne (.a 6) 4, .ne (.a 6) 2, .ne (.a 6) 1, .ne (.a 6) 0, .le (.a 5) 2147483647, .ge (.a 5) (-2147483648)]) : MemJ val :=
  leaf h [(.c 0), (.c 0), (.c 0), (.c 0), (.c 0), (.c 0), (.c 0), (.c 2)] rfl (by kernel_rfl)

theorem memJ251 (val : Nat → Int) (h : Holds val [.ne (.a 2) 5, .ne (.a 2) 0, .is (.a 1) 0, .is (.a 0) 0, .is (.a 6) 16, .ne (.a 6) 8, .ne (.a 6) 4, .ne (.a 6) 2, .ne (.a 6) 1, .ne (.a 6) 0, .le (.a 5) 2147483647, .ge (.a 5) (-2147483648)]) : MemJ val :=
  leaf h [(.c 0), (.c 0), (.c 0), (.c 0), (.c 0), (.c 0), (.c 0), (.c 2)] rfl (by kernel_rfl)

theorem memJ252 (val : Nat → Int) (h : Holds val [.ne (.a 1) 0, .is (.a 0) 0, .is (.a 6) 16, .ne (.a 6) 8, .ne (.a 6) 4, .ne (.a 6) 2, .ne (.a 6) 1, .ne (.a 6) 0, .le (.a 5) 2147483647, .ge (.a 5) (-2147483648)]) : MemJ val :=
  leaf h [(.c 0), (.c 0), (.c 0), (.c 0), (.c 0), (.c 0), (.c 0), (.c 2)] rfl (by kernel_rfl)

theorem memJ253 (val : Nat → Int) (h : Holds val [.is (.a 4) 0, .is (.a 3) 0, .is (.a 2) 0, .is (.a 1) 0, .is (.a 0) 8, .ne (.a 0) 0, .is (.a 6) 16, .ne (.a 6) 8, .ne (.a 6) 4, .ne (.a 6) 2, .ne (.a 6) 1, .ne (.a 6) 0, .le (.a 5) 2147483647, .ge (.a 5) (-2147483648)]) : MemJ val :=
  leaf h [(.a 0), (.a 1), (.a 2), (.a 3), (.a 4), (.a 5), (.a 6), (.c 0)] rfl (by kernel_rfl)

theorem memJ254 (val : Nat → Int) (h : Holds val [.ne (.a 4) 0, .is (.a 3) 0, .is (.a 2) 0, .is (.a 1) 0, .is (.a 0) 8, .ne (.a 0) 0, .is (.a 6) 16, .ne (.a 6) 8, .ne (.a 6) 4, .ne (.a 6) 2, .ne (.a 6) 1, .ne (.a 6) 0, .le (.a 5) 2147483647, .ge (.a 5) (-2147483648)]) : MemJ val :=
  leaf h [(.c 0), (.c 0), (.c 0), (.c 0), (.c 0), (.c 0), (.c 0), (.c 2)] rfl (by kernel_rfl)

theorem memJ255 (val : Nat → Int) (h : Holds val [.ne (.a 3) 0, .is (.a 2) 0, .is (.a 1) 0, .is (.a 0) 8, .ne (.a 0) 0, .is (.a 6) 16, .ne (.a 6) 8, .ne (.a 6) 4, .ne (.a 6) 2, .ne (.a 6) 1, .ne (.a 6) 0, .le (.a 5) 2147483647, .ge (.a 5) (-2147483648)]) : MemJ val :=
  leaf h [(.c 0), (.c 0), (.c 0), (.c 0), (.c 0), (.c 0), (.c 0), (.c 2)] rfl (by kernel_rfl)

theorem memJ256 (val : Nat → Int) (h : Holds val [.is (.a 4) 1, .le (.a 3) 15, .ge (.a 3) 0, .is (.a 2) 5, .ne (.a 2) 0, .is (.a 1) 0, .is (.a 0) 8, .ne (.a 0) 0, .is (.a 6) 16, .ne (.a 6) 8, .ne (.a 6) 4, .ne (.a 6) 2, .ne (.a 6) 1, .ne (.a 6) 0, .le (.a 5) 2147483647, .ge (.a 5) (-2147483648)]) : MemJ val :=
  leaf h [(.c 0), (.c 0), (.c 0), (.c 0), (.c 0), (.c 0), (.c 0), (.c 2)] rfl (by kernel_rfl)

theorem memJ257 (val : Nat → Int) (h : Holds val [.is (.a 4) 2, .ne (.a 4) 1, .le (.a 3) 15, .ge (.a 3) 0, .is (.a 2) 5, .ne (.a 2) 0, .is (.a 1) 0, .is (.a 0) 8, .ne (.a 0) 0, .is (.a 6) 16, .ne (.a 6) 8, .ne (.a 6) 4, .ne (.a 6) 2, .ne (.a 6) 1, .ne (.a 6) 0, .le (.a 5) 2147483647, .ge (.a 5) (-2147483648)]) : MemJ val :=
  leaf h [(.c 0), (.c 0), (.c 0), (.c 0), (.c 0), (.c 0), (.c 0), (.c 2)] rfl (by kernel_rfl)

theorem memJ258 (val : Nat → Int) (h : Holds val [.is (.a 4) 4, .ne (.a 4) 2, .ne (.a 4) 1, .le (.a 3) 15, .ge (.a 3) 0, .is (.a 2) 5, .ne (.a 2) 0, .is (.a 1) 0, .is (.a 0) 8, .ne (.a 0) 0, .is (.a 6) 16, .ne (.a 6) 8, .ne (.a 6) 4, .ne (.a 6) 2, .ne (.a 6) 1, .ne (.a 6) 0, .le (.a 5) 2147483647, .ge (.a 5) (-2147483648)]) : MemJ val :=
  leaf h [(.c 0), (.c 0), (.c 0), (.c 0), (.c 0), (.c 0), (.c 0), (.c 2)] rfl (by kernel_rfl)

theorem memJ259 (val : Nat → Int) (h : Holds val [.is (.a 4) 8, .ne (.a 4) 4, .ne (.a 4) 2, .ne (.a 4) 1, .le (.a 3) 15, .ge (.a 3) 0, .is (.a 2) 5, .ne (.a 2) 0, .is (.a 1) 0, .is (.a 0) 8, .ne (.a 0) 0, .is (.a 6) 16, .ne (.a 6) 8, .ne (.a 6) 4, .ne (.a 6) 2, .ne (.a 6) 1, .ne (.a 6) 0, .le (.a 5) 2147483647, .ge (.a 5) (-2147483648)]) : MemJ val :=
  leaf h [(.c 0), (.c 0), (.c 0), (.c 0), (.c 0), (.c 0), (.c 0), (.c 2)] rfl (by kernel_rfl)

theorem memJ260 (val : Nat → Int) (h : Holds val [.ne (.a 4) 8, .ne (.a 4) 4, .ne (.a 4) 2, .ne (.a 4) 1, .le (.a 3) 15, .ge (.a 3) 0, .is (.a 2) 5, .ne (.a 2) 0, .is (.a 1) 0, .is (.a 0) 8, .ne (.a 0) 0, .is (.a 6) 16, .ne (.a 6) 8, .ne (.a 6) 4, .ne (.a 6) 2, .ne (.a 6) 1, .ne (.a 6) 0, .le (.a 5) 2147483647, .ge (.a 5) (-2147483648)]) : MemJ val :=
  leaf h [(.c 0), (.c 0), (.c 0), (.c 0), (.c 0), (.c 0), (.c 0), (.c 2)] rfl (by kernel_rfl)

theorem memJ261 (val : Nat → Int) (h : Holds val [.ge (.a 3) 16, .ge (.a 3) 0, .is (.a 2) 5, .ne (.a 2) 0, .is (.a 1) 0, .is (.a 0) 8, .ne (.a 0) 0, .is (.a 6) 16, .ne (.a 6) 8, .ne (.a 6) 4, .ne (.a 6) 2, .ne (.a 6) 1, .ne (.a 6) 0, .le (.a 5) 2147483647, .ge (.a 5) (-2147483648)]) : MemJ val :=
  leaf h [(.c 0), (.c 0), (.c 0), (.c 0), (.c 0), (.c 0), (.c 0), (.c 2)] rfl (by kernel_rfl)

theorem memJ262 (val : Nat → Int) (h : Holds val [.le (.a 3) (-1), .is (.a 2) 5, .ne (.a 2) 0, .is (.a 1) 0, .is (.a 0) 8, .ne (.a 0) 0, .is (.a 6) 16, .ne (.a 6) 8, .ne (.a 6) 4, .ne (.a 6) 2, .ne (.a 6) 1, .ne (.a 6) 0, .le (.a 5) 2147483647, .ge (.a 5) (-2147483648)]) : MemJ val :=
  leaf h [(.c 0), (.c 0), (.c 0), (.c 0), (.c 0), (.c 0), (.c 0), (.c 2)] rfl (by kernel_rfl)

theorem memJ263 (val : Nat → Int) (h : Holds val [.ne (.a 2) 5, .ne (.a 2) 0, .is (.a 1) 0, .is (.a 0) 8, .ne (.a 0) 0, .is (.a 6) 16, .ne (.a 6) 8, .ne (.a 6) 4, .ne (.a 6) 2, .ne (.a 6) 1, .ne (.a 6) 0, .le (.a 5) 2147483647, .ge (.a 5) (-2147483648)]) : MemJ val :=
  leaf h [(.c 0), (.c 0), (.c 0), (.c 0), (.c 0), (.c 0), (.c 0), (.c 2)] rfl (by kernel_rfl)

theorem memJ264 (val : Nat → Int) (h : Holds val [.ne (.a 1) 0, .is (.a 0) 8, .ne (.a 0) 0, .is (.a 6) 16, .ne (.a 6) 8, .ne (.a 6) 4, .ne (.a 6) 2, .ne (.a 6) 1, .ne (.a 6) 0, .le (.a 5) 2147483647, .ge (.a 5) (-2147483648)]) : MemJ val :=
  leaf h [(.c 0), (.c 0), (.c 0), (.c 0), (.c 0), (.c 0), (.c 0), (.c 2)] rfl (by kernel_rfl)

theorem memJ265 (val : Nat → Int) (h : Holds val [.is (.a 4) 0, .is (.a 3) 0, .is (.a 2) 0, .le (.a 1) 15, .ge (.a 1) 0, .is (.a 0) 5, .ne (.a 0) 8, .ne (.a 0) 0, .is (.a 6) 16, .ne (.a 6) 8, .ne (.a 6) 4, .ne (.a 6) 2, .ne (.a 6) 1, .ne (.a 6) 0, .le (.a 5) 2147483647, .ge (.a 5) (-2147483648)]) : MemJ val :=
  leaf h [(.a 0), (.a 1), (.a 2), (.a 3), (.a 4), (.a 5), (.a 6), (.c 0)] rfl (by kernel_rfl)

theorem memJ266 (val : Nat → Int) (h : Holds val [.ne (.a 4) 0, .is (.a 3) 0, .is (.a 2) 0, .le (.a 1) 15, .ge (.a 1) 0, .is (.a 0) 5, .ne (.a 0) 8, .ne (.a 0) 0, .is (.a 6) 16, .ne (.a 6) 8, .ne (.a 6) 4, .ne (.a 6) 2, .ne (.a 6) 1, .ne (.a 6) 0, .le (.a 5) 2147483647, .ge (.a 5) (-2147483648)]) : MemJ val :=
  leaf h [(.c 0), (.c 0), (.c 0), (.c 0), (.c 0), (.c 0), (.c 0), (.c 2)] rfl (by kernel_rfl)

theorem memJ267 (val : Nat → Int) (h : Holds val [.ne (.a 3) 0, .is (.a 2) 0, .le (.a 1) 15, .ge (.a 1) 0, .is (.a 0) 5, .ne (.a 0) 8, .ne (.a 0) 0, .is (.a 6) 16, .ne (.a 6) 8, .ne (.a 6) 4, .ne (.a 6) 2, .ne (.a 6) 1, .ne (.a 6) 0, .le (.a 5) 2147483647, .ge (.a 5) (-2147483648)]) : MemJ val :=
  leaf h [(.c 0), (.c 0), (.c 0), (.c 0), (.c 0), (.c 0), (.c 0), (.c 2)] rfl (by kernel_rfl)

theorem memJ268 (val : Nat → Int) (h : Holds val [.is (.a 1) 4, .is (.a 3) 4, .is (.a 4) 1, .le (.a 3) 15, .ge (.a 3) 0, .is (.a 2) 5, .ne (.a 2) 0, .le (.a 1) 15, .ge (.a 1) 0, .is (.a 0) 5, .ne (.a 0) 8, .ne (.a 0) 0, .is (.a 6) 16, .ne (.a 6) 8, .ne (.a 6) 4, .ne (.a 6) 2, .ne (.a 6) 1, .ne (.a 6) 0, .le (.a 5) 2147483647, .ge (.a 5) (-2147483648)]) : MemJ val :=
  leaf h [(.c 0), (.c 0), (.c 0), (.c 0), (.c 0), (.c 0), (.c 0), (.c 2)] rfl (by kernel_rfl)

theorem memJ269 (val : Nat → Int) (h : Holds val [.ne (.a 1) 4, .is (.a 3) 4, .is (.a 4) 1, .le (.a 3) 15, .ge (.a 3) 0, .is (.a 2) 5, .ne (.a 2) 0, .le (.a 1) 15, .ge (.a 1) 0, .is (.a 0) 5, .ne (.a 0) 8, .ne (.a 0) 0, .is (.a 6) 16, .ne (.a 6) 8, .ne (.a 6) 4, .ne (.a 6) 2, .ne (.a 6) 1, .ne (.a 6) 0, .le (.a 5) 2147483647, .ge (.a 5) (-2147483648)]) : MemJ val :=
  leaf h [(.a 2), (.a 3), (.a 0), (.a 1), (.a 4), (.a 5), (.a 6), (.c 0)] rfl (by kernel_rfl)

theorem memJ270 (val : Nat → Int) (h : Holds val [.ne (.a 3) 4, .is (.a 4) 1, .le (.a 3) 15, .ge (.a 3) 0, .is (.a 2) 5, .ne (.a 2) 0, .le (.a 1) 15, .ge (.a 1) 0, .is (.a 0) 5, .ne (.a 0) 8, .ne (.a 0) 0, .is (.a 6) 16, .ne (.a 6) 8, .ne (.a 6) 4, .ne (.a 6) 2, .ne (.a 6) 1, .ne (.a 6) 0, .le (.a 5) 2147483647, .ge (.a 5) (-2147483648)]) : MemJ val :=
  leaf h [(.a 0), (.a 1), (.a 2), (.a 3), (.a 4), (.a 5), (.a 6), (.c 0)] rfl (by kernel_rfl)

theorem memJ271 (val : Nat → Int) (h : Holds val [.is (.a 3) 4, .is (.a 4) 2, .ne (.a 4) 1, .le (.a 3) 15, .ge (.a 3) 0, .is (.a 2) 5, .ne (.a 2) 0, .le (.a 1) 15, .ge (.a 1) 0, .is (.a 0) 5, .ne (.a 0) 8, .ne (.a 0) 0, .is (.a 6) 16, .ne (.a 6) 8, .ne (.a 6) 4, .ne (.a 6) 2, .ne (.a 6) 1, .ne (.a 6) 0, .le (.a 5) 2147483647, .ge (.a 5) (-2147483648)]) : MemJ val :=
  leaf h [(.c 0), (.c 0), (.c 0), (.c 0), (.c 0), (.c 0), (.c 0), (.c 2)] rfl (by kernel_rfl)

theorem memJ272 (val : Nat → Int) (h : Holds val [.ne (.a 3) 4, .is (.a 4) 2, .ne (.a 4) 1, .le (.a 3) 15, .ge (.a 3) 0, .is (.a 2) 5, .ne (.a 2) 0, .le (.a 1) 15, .ge (.a 1) 0, .is (.a 0) 5, .ne (.a 0) 8, .ne (.a 0) 0, .is (.a 6) 16, .ne (.a 6) 8, .ne (.a 6) 4, .ne (.a 6) 2, .ne (.a 6) 1, .ne (.a 6) 0, .le (.a 5) 2147483647, .ge (.a 5) (-2147483648)]) : MemJ val :=
  leaf h [(.a 0), (.a 1), (.a 2), (.a 3), (.a 4), (.a 5), (.a 6), (.c 0)] rfl (by kernel_rfl)

theorem memJ273 (val : Nat → Int) (h : Holds val [.is (.a 3) 4, .is (.a 4) 4, .ne (.a 4) 2, .ne (.a 4) 1, .le (.a 3) 15, .ge (.a 3) 0, .is (.a 2) 5, .ne (.a 2) 0, .le (.a 1) 15, .ge (.a 1) 0, .is (.a 0) 5, .ne (.a 0) 8, .ne (.a 0) 0, .is (.a 6) 16, .ne (.a 6) 8, .ne (.a 6) 4, .ne (.a 6) 2, .ne (.a 6) 1, .ne (.a 6) 0, .le (.a 5) 2147483647, .ge (.a 5) (-2147483648)]) : MemJ val :=
  leaf h [(.c 0), (.c 0), (.c 0), (.c 0), (.c 0), (.c 0), (.c 0), (.c 2)] rfl (by kernel_rfl)

theorem memJ274 (val : Nat → Int) (h : Holds val [.ne (.a 3) 4, .is (.a 4) 4, .ne (.a 4) 2, .ne (.a 4) 1, .le (.a 3) 15, .ge (.a 3) 0, .is (.a 2) 5, .ne (.a 2) 0, .le (.a 1) 15, .ge (.a 1) 0, .is (.a 0) 5, .ne (.a 0) 8, .ne (.a 0) 0, .is (.a 6) 16, .ne (.a 6) 8, .ne (.a 6) 4, .ne (.a 6) 2, .ne (.a 6) 1, .ne (.a 6) 0, .le (.a 5) 2147483647, .ge (.a 5) (-2147483648)]) : MemJ val :=
  leaf h [(.a 0), (.a 1), (.a 2), (.a 3), (.a 4), (.a 5), (.a 6), (.c 0)] rfl (by kernel_rfl)

theorem memJ275 (val : Nat → Int) (h : Holds val [.is (.a 3) 4, .is (.a 4) 8, .ne (.a 4) 4, .ne (.a 4) 2, .ne (.a 4) 1, .le (.a 3) 15, .ge (.a 3) 0, .is (.a 2) 5, .ne (.a 2) 0, .le (.a 1) 15, .ge (.a 1) 0, .is (.a 0) 5, .ne (.a 0) 8, .ne (.a 0) 0, .is (.a 6) 16, .ne (.a 6) 8, .ne (.a 6) 4, .ne (.a 6) 2, .ne (.a 6) 1, .ne (.a 6) 0, .le (.a 5) 2147483647, .ge (.a 5) (-2147483648)]) : MemJ val :=
  leaf h [(.c 0), (.c 0), (.c 0), (.c 0), (.c 0), (.c 0), (.c 0), (.c 2)] rfl (by kernel_rfl)

theorem memJ276 (val : Nat → Int) (h : Holds val [.ne (.a 3) 4, .is (.a 4) 8, .ne (.a 4) 4, .ne (.a 4) 2, .ne (.a 4) 1, .le (.a 3) 15, .ge (.a 3) 0, .is (.a 2) 5, .ne (.a 2) 0, .le (.a 1) 15, .ge (.a 1) 0, .is (.a 0) 5, .ne (.a 0) 8, .ne (.a 0) 0, .is (.a 6) 16, .ne (.a 6) 8, .ne (.a 6) 4, .ne (.a 6) 2, .ne (.a 6) 1, .ne (.a 6) 0, .le (.a 5) 2147483647, .ge (.a 5) (-2147483648)]) : MemJ val :=
  leaf h [(.a 0), (.a 1), (.a 2), (.a 3), (.a 4), (.a 5), (.a 6), (.c 0)] rfl (by kernel_rfl)

theorem memJ277 (val : Nat → Int) (h : Holds val [.ne (.a 4) 8, .ne (.a 4) 4, .ne (.a 4) 2, .ne (.a 4) 1, .le (.a 3) 15, .ge (.a 3) 0, .is (.a 2) 5, .ne (.a 2) 0, .le (.a 1) 15, .ge (.a 1) 0, .is (.a 0) 5, .ne (.a 0) 8, .ne (.a 0) 0, .is (.a 6) 16, .ne (.a 6) 8, .ne (.a 6) 4, .ne (.a 6) 2, .ne (.a 6) 1, .ne (.a 6) 0, .le (.a 5) 2147483647, .ge (.a 5) (-2147483648)]) : MemJ val :=
  leaf h [(.c 0), (.c 0), (.c 0), (.c 0), (.c 0), (.c 0), (.c 0), (.c 2)] rfl (by kernel_rfl)

theorem memJ278 (val : Nat → Int) (h : Holds val [.ge (.a 3) 16, .ge (.a 3) 0, .is (.a 2) 5, .ne (.a 2) 0, .le (.a 1) 15, .ge (.a 1) 0, .is (.a 0) 5, .ne (.a 0) 8, .ne (.a 0) 0, .is (.a 6) 16, .ne (.a 6) 8, .ne (.a 6) 4, .ne (.a 6) 2, .ne (.a 6) 1, .ne (.a 6) 0, .le (.a 5) 2147483647, .ge (.a 5) (-2147483648)]) : MemJ val :=
  leaf h [(.c 0), (.c 0), (.c 0), (.c 0), (.c 0), (.c 0), (.c 0), (.c 2)] rfl (by kernel_rfl)

theorem memJ279 (val : Nat → Int) (h : Holds val [.le (.a 3) (-1), .is (.a 2) 5, .ne (.a 2) 0, .le (.a 1) 15, .ge (.a 1) 0, .is (.a 0) 5, .ne (.a 0) 8, .ne (.a 0) 0, .is (.a 6) 16, .ne (.a 6) 8, .ne (.a 6) 4, .ne (.a 6) 2, .ne (.a 6) 1, .ne (.a 6) 0, .le (.a 5) 2147483647, .ge (.a 5) (-2147483648)]) : MemJ val :=
  leaf h [(.c 0), (.c 0), (.c 0), (.c 0), (.c 0), (.c 0), (.c 0), (.c 2)] rfl (by kernel_rfl)

theorem memJ280 (val : Nat → Int) (h : Holds val [.ne (.a 2) 5, .ne (.a 2) 0, .le (.a 1) 15, .ge (.a 1) 0, .is (.a 0) 5, .ne (.a 0) 8, .ne (.a 0) 0, .is (.a 6) 16, .ne (.a 6) 8, .ne (.a 6) 4, .ne (.a 6) 2, .ne (.a 6) 1, .ne (.a 6) 0, .le (.a 5) 2147483647, .ge (.a 5) (-2147483648)]) : MemJ val :=
  leaf h [(.c 0), (.c 0), (.c 0), (.c 0), (.c 0), (.c 0), (.c 0), (.c 2)] rfl (by kernel_rfl)

theorem memJ281 (val : Nat → Int) (h : Holds val [.ge (.a 1) 16, .ge (.a 1) 0, .is (.a 0) 5, .ne (.a 0) 8, .ne (.a 0) 0, .is (.a 6) 16, .ne (.a 6) 8, .ne (.a 6) 4, .ne (.a 6) 2, .ne (.a 6) 1, .ne (.a 6) 0, .le (.a 5) 2147483647, .ge (.a 5) (-2147483648)]) : MemJ val :=
  leaf h [(.c 0), (.c 0), (.c 0), (.c 0), (.c 0), (.c 0), (.c 0), (.c 2)] rfl (by kernel_rfl)

theorem memJ282 (val : Nat → Int) (h : Holds val [.le (.a 1) (-1), .is (.a 0) 5, .ne (.a 0) 8, .ne (.a 0) 0, .is (.a 6) 16, .ne (.a 6) 8, .ne (.a 6) 4, .ne (.a 6) 2, .ne (.a 6) 1, .ne (.a 6) 0, .le (.a 5) 2147483647, .ge (.a 5) (-2147483648)]) : MemJ val :=
  leaf h [(.c 0), (.c 0), (.c 0), (.c 0), (.c 0), (.c 0), (.c 0), (.c 2)] rfl (by kernel_rfl)

theorem memJ283 (val : Nat → Int) (h : Holds val [.ne (.a 0) 5, .ne (.a 0) 8, .ne (.a 0) 0, .is (.a 6) 16, .ne (.a 6) 8, .ne (.a 6) 4, .ne (.a 6) 2, .ne (.a 6) 1, .ne (.a 6) 0, .le (.a 5) 2147483647, .ge (.a 5) (-2147483648)]) : MemJ val :=
  leaf h [(.c 0), (.c 0), (.c 0), (.c 0), (.c 0), (.c 0), (.c 0), (.c 2)] rfl (by kernel_rfl)

theorem memJ284 (val : Nat → Int) (h : Holds val [.is (.a 4) 0, .is (.a 3) 0, .is (.a 2) 0, .is (.a 1) 0, .is (.a 0) 0, .is (.a 6) 32, .ne (.a 6) 16, .ne (.a 6) 8, .ne (.a 6) 4, .ne (.a 6) 2, .ne (.a 6) 1, .ne (.a 6) 0, .le (.a 5) 2147483647, .ge (.a 5) (-2147483648)]) : MemJ val :=
  leaf h [(.a 0), (.a 1), (.a 2), (.a 3), (.a 4), (.a 5), (.a 6), (.c 0)] rfl (by kernel_rfl)

theorem memJ285 (val : Nat → Int) (h : Holds val [.ne (.a 4) 0, .is (.a 3) 0, .is (.a 2) 0, .is (.a 1) 0, .is (.a 0) 0, .is (.a 6) 32, .ne (.a 6) 16, .ne (.a 6) 8, .ne (.a 6) 4, .ne (.a 6) 2, .ne (.a 6) 1, .ne (.a 6) 0, .le (.a 5) 2147483647, .ge (.a 5) (-2147483648)]) : MemJ val :=
  leaf h [(.c 0), (.c 0), (.c 0), (.c 0), (.c 0), (.c 0), (.c 0), (.c 2)] rfl (by kernel_rfl)

theorem memJ286 (val : Nat → Int) (h : Holds val [.ne (.a 3) 0, .is (.a 2) 0, .is (.a 1) 0, .is (.a 0) 0, .is (.a 6) 32, .ne (.a 6) 16, .ne (.a 6) 8, .ne (.a 6) 4, .ne (.a 6) 2, .ne (.a 6) 1, .ne (.a 6) 0, .le (.a 5) 2147483647, .ge (.a 5) (-2147483648)]) : MemJ val :=
  leaf h [(.c 0), (.c 0), (.c 0), (.c 0), (.c 0), (.c 0), (.c 0), (.c 2)] rfl (by kernel_rfl)

theorem memJ287 (val : Nat → Int) (h : Holds val [.is (.a 3) 4, .is (.a 4) 1, .le (.a 3) 15, .ge (.a 3) 0, .is (.a 2) 5, .ne (.a 2) 0, .is (.a 1) 0, .is (.a 0) 0, .is (.a 6) 32, .ne (.a 6) 16, .ne (.a 6) 8, .ne (.a 6) 4, .ne (.a 6) 2, .ne (.a 6) 1, .ne (.a 6) 0, .le (.a 5) 2147483647, .ge (.a 5) (-2147483648)]) : MemJ val :=
  leaf h [(.a 2), (.a 3), (.c 0), (.c 0), (.c 0), (.a 5), (.a 6), (.c 0)] rfl (by kernel_rfl)

theorem memJ288 (val : Nat → Int) (h : Holds val [.ne (.a 3) 4, .is (.a 4) 1, .le (.a 3) 15, .ge (.a 3) 0, .is (.a 2) 5, .ne (.a 2) 0, .is (.a 1) 0, .is (.a 0) 0, .is (.a 6) 32, .ne (.a 6) 16, .ne (.a 6) 8, .ne (.a 6) 4, .ne (.a 6) 2, .ne (.a 6) 1, .ne (.a 6) 0, .le (.a 5) 2147483647, .ge (.a 5) (-2147483648)]) : MemJ val :=
  leaf h [(.a 2), (.a 3), (.c 0), (.c 0), (.c 0), (.a 5), (.a 6), (.c 0)] rfl (by kernel_rfl)

theorem memJ289 (val : Nat → Int) (h : Holds val [.is (.a 3) 4, .is (.a 4) 2, .ne (.a 4) 1, .le (.a 3) 15, .ge (.a 3) 0, .is (.a 2) 5, .ne (.a 2) 0, .is (.a 1) 0, .is (.a 0) 0, .is (.a 6) 32, .ne (.a 6) 16, .ne (.a 6) 8, .ne (.a 6) 4, .ne (.a 6) 2, .ne (.a 6) 1, .ne (.a 6) 0, .le (.a 5) 2147483647, .ge (.a 5) (-2147483648)]) : MemJ val :=
  leaf h [(.c 0), (.c 0), (.c 0), (.c 0), (.c 0), (.c 0), (.c 0), (.c 2)] rfl (by kernel_rfl)

theorem memJ290 (val : Nat → Int) (h : Holds val [.ne (.a 3) 4, .is (.a 4) 2, .ne (.a 4) 1, .le (.a 3) 15, .ge (.a 3) 0, .is (.a 2) 5, .ne (.a 2) 0, .is (.a 1) 0, .is (.a 0) 0, .is (.a 6) 32, .ne (.a 6) 16, .ne (.a 6) 8, .ne (.a 6) 4, .ne (.a 6) 2, .ne (.a 6) 1, .ne (.a 6) 0, .le (.a 5) 2147483647, .ge (.a 5) (-2147483648)]) : MemJ val :=
  leaf h [(.a 0), (.a 1), (.a 2), (.a 3), (.a 4), (.a 5), (.a 6), (.c 0)] rfl (by kernel_rfl)

theorem memJ291 (val : Nat → Int) (h : Holds val [.is (.a 3) 4, .is (.a 4) 4, .ne (.a 4) 2, .ne (.a 4) 1, .le (.a 3) 15, .ge (.a 3) 0, .is (.a 2) 5, .ne (.a 2) 0, .is (.a 1) 0, .is (.a 0) 0, .is (.a 6) 32, .ne (.a 6) 16, .ne (.a 6) 8, .ne (.a 6) 4, .ne (.a 6) 2, .ne (.a 6) 1, .ne (.a 6) 0, .le (.a 5) 2147483647, .ge (.a 5) (-2147483648)]) : MemJ val :=
  leaf h [(.c 0), (.c 0), (.c 0), (.c 0), (.c 0), (.c 0), (.c 0), (.c 2)] rfl (by kernel_rfl)

theorem memJ292 (val : Nat → Int) (h : Holds val [.ne (.a 3) 4, .is (.a 4) 4, .ne (.a 4) 2, .ne (.a 4) 1, .le (.a 3) 15, .ge (.a 3) 0, .is (.a 2) 5, .ne (.a 2) 0, .is (.a 1) 0, .is (.a 0) 0, .is (.a 6) 32, .ne (.a 6) 16, .ne (.a 6) 8, .ne (.a 6) 4, .ne (.a 6) 2, .ne (.a 6) 1, .ne (.a 6) 0, .le (.a 5) 2147483647, .ge (.a 5) (-2147483648)]) : MemJ val :=
  leaf h [(.a 0), (.a 1), (.a 2), (.a 3), (.a 4), (.a 5), (.a 6), (.c 0)] rfl (by kernel_rfl)

theorem memJ293 (val : Nat → Int) (h : Holds val [.is (.a 3) 4, .is (.a 4) 8, .ne (.a 4) 4, .ne (.a 4) 2, .ne (.a 4) 1, .le (.a 3) 15, .ge (.a 3) 0, .is (.a 2) 5, .ne (.a 2) 0, .is (.a 1) 0, .is (.a 0) 0, .is (.a 6) 32, .ne (.a 6) 16, .ne (.a 6) 8, .ne (.a 6) 4, .ne (.a 6) 2, .ne (.a 6) 1, .ne (.a 6) 0, .le (.a 5) 2147483647, .ge (.a 5) (-2147483648)]) : MemJ val :=
  leaf h [(.c 0), (.c 0), (.c 0), (.c 0), (.c 0), (.c 0), (.c 0), (.c 2)] rfl (by kernel_rfl)

theorem memJ294 (val : Nat → Int) (h : Holds val [.ne (.a 3) 4, .is (.a 4) 8, .ne (.a 4) 4, .ne (.a 4) 2, .ne (.a 4) 1, .le (.a 3) 15, .ge (.a 3) 0, .is (.a 2) 5, .ne (.a 2) 0, .is (.a 1) 0, .is (.a 0) 0, .is (.a 6) 32, .ne (.a 6) 16, .ne (.a 6) 8, .ne (.a 6) 4, .ne (.a 6) 2, .ne (.a 6) 1, .ne (.a 6) 0, .le (.a 5) 2147483647, .ge (.a 5) (-2147483648)]) : MemJ val :=
  leaf h [(.a 0), (.a 1), (.a 2), (.a 3), (.a 4), (.a 5), (.a 6), (.c 0)] rfl (by kernel_rfl)

theorem memJ295 (val : Nat → Int) (h : Holds val [.ne (.a 4) 8, .ne (.a 4) 4, .ne (.a 4) 2, .ne (.a 4) 1, .le (.a 3) 15, .ge (.a 3) 0, .is (.a 2) 5, .ne (.a 2) 0, .is (.a 1) 0, .is (.a 0) 0, .is (.a 6) 32, .ne (.a 6) 16, .ne (.a 6) 8, .ne (.a 6) 4, .ne (.a 6) 2, .ne (.a 6) 1, .ne (.a 6) 0, .le (.a 5) 2147483647, .ge (.a 5) (-2147483648)]) : MemJ val :=
  leaf h [(.c 0), (.c 0), (.c 0), (.c 0), (.c 0), (.c 0), (.c 0), (.c 2)] rfl (by kernel_rfl)

theorem memJ296 (val : Nat → Int) (h : Holds val [.ge (.a 3) 16, .ge (.a 3) 0, .is (.a 2) 5, .ne (.a 2) 0, .is (.a 1) 0, .is (.a 0) 0, .is (.a 6) 32, .ne (.a 6) 16, .ne (.a 6) 8, .ne (.a 6) 4, .ne (.a 6) 2, .ne (.a 6) 1, .ne (.a 6) 0, .le (.a 5) 2147483647, .ge (.a 5) (-2147483648)]) : MemJ val :=
  leaf h [(.c 0), (.c 0), (.c 0), (.c 0), (.c 0), (.c 0), (.c 0), (.c 2)] rfl (by kernel_rfl)

theorem memJ297 (val : Nat → Int) (h : Holds val [.le (.a 3) (-1), .is (.a 2) 5, .ne (.a 2) 0, .is (.a 1) 0, .is (.a 0) 0, .is (.a 6) 32, .ne (.a 6) 16, .ne (.a 6) 8, .ne (.a 6) 4, .ne (.a 6) 2, .ne (.a 6) 1, .ne (.a 6) 0, .le (.a 5) 2147483647, .ge (.a 5) (-2147483648)]) : MemJ val :=
  leaf h [(.c 0), (.c 0), (.c 0), (.c 0), (.c 0), (.c 0), (.c 0), (.c 2)] rfl (by kernel_rfl)

theorem memJ298 (val : Nat → Int) (h : Holds val [.ne (.a 2) 5, .ne (.a 2) 0, .is (.a 1) 0, .is (.a 0) 0, .is (.a 6) 32, .ne (.a 6) 16, .ne (.a 6) 8, .ne (.a 6) 4, .ne (.a 6) 2, .ne (.a 6) 1, .ne (.a 6) 0, .le (.a 5) 2147483647, .ge (.a 5) (-2147483648)]) : MemJ val :=
  leaf h [(.c 0), (.c 0), (.c 0), (.c 0), (.c 0), (.c 0), (.c 0), (.c 2)] rfl (by kernel_rfl)

theorem memJ299 (val : Nat → Int) (h : Holds val [.ne (.a 1) 0, .is (.a 0) 0, .is (.a 6) 32, .ne (.a 6) 16, .ne (.a 6) 8, .ne (.a 6) 4, .ne (.a 6) 2, .ne (.a 6) 1, .ne (.a 6) 0, .le (.a 5) 2147483647, .ge (.a 5) (-2147483648)]) : MemJ val :=
  leaf h [(.c 0), (.c 0), (.c 0), (.c 0), (.c 0), (.c 0), (.c 0), (.c 2)] rfl (by kernel_rfl)

theorem memJ300 (val : Nat → Int) (h : Holds val [.is (.a 4) 0, .is (.a 3) 0, .is (.a 2) 0, .is (.a 1) 0, .is (.a 0) 8, .ne (.a 0) 0, .is (.a 6) 32, .ne (.a 6) 16, .ne (.a 6) 8, .ne (.a 6) 4, .ne (.a 6) 2, .ne (.a 6) 1, .ne (.a 6) 0, .le (.a 5) 2147483647, .ge (.a 5) (-2147483648)]) : MemJ val :=
  leaf h [(.a 0), (.a 1), (.a 2), (.a 3), (.a 4), (.a 5), (.a 6), (.c 0)] rfl (by kernel_rfl)

theorem memJ301 (val : Nat → Int) (h : Holds val [.ne (.a 4) 0, .is (.a 3) 0, .is (.a 2) 0, .is (.a 1) 0, .is (.a 0) 8, .ne (.a 0) 0, .is (.a 6) 32, .ne (.a 6) 16, .ne (.a 6) 8, .ne (.a 6) 4, .ne (.a 6) 2, .ne (.a 6) 1, .ne (.a 6) 0, .le (.a 5) 2147483647, .ge (.a 5) (-2147483648)]) : MemJ val :=
  leaf h [(.c 0), (.c 0), (.c 0), (.c 0), (.c 0), (.c 0), (.c 0), (.c 2)] rfl (by kernel_rfl)

theorem memJ302 (val : Nat → Int) (h : Holds val [.ne (.a 3) 0, .is (.a 2) 0, .is (.a 1) 0, .is (.a 0) 8, .ne (.a 0) 0, .is (.a 6) 32, .ne (.a 6) 16, .ne (.a 6) 8, .ne (.a 6) 4, .ne (.a 6) 2, .ne (.a 6) 1, .ne (.a 6) 0, .le (.a 5) 2147483647, .ge (.a 5) (-2147483648)]) : MemJ val :=
  leaf h [(.c 0), (.c 0), (.c 0), (.c 0), (.c 0), (.c 0), (.c 0), (.c 2)] rfl (by kernel_rfl)

theorem memJ303 (val : Nat → Int) (h : Holds val [.is (.a 4) 1, .le (.a 3) 15, .ge (.a 3) 0, .is (.a 2) 5, .ne (.a 2) 0, .is (.a 1) 0, .is (.a 0) 8, .ne (.a 0) 0, .is (.a 6) 32, .ne (.a 6) 16, .ne (.a 6) 8, .ne (.a 6) 4, .ne (.a 6) 2, .ne (.a 6) 1, .ne (.a 6) 0, .le (.a 5) 2147483647, .ge (.a 5) (-2147483648)]) : MemJ val :=
  leaf h [(.c 0), (.c 0), (.c 0), (.c 0), (.c 0), (.c 0), (.c 0), (.c 2)] rfl (by kernel_rfl)

theorem memJ304 (val : Nat → Int) (h : Holds val [.is (.a 4) 2, .ne (.a 4) 1, .le (.a 3) 15, .ge (.a 3) 0, .is (.a 2) 5, .ne (.a 2) 0, .is (.a 1) 0, .is (.a 0) 8, .ne (.a 0) 0, .is (.a 6) 32, .ne (.a 6) 16, .ne (.a 6) 8, .ne (.a 6) 4, .ne (.a 6) 2, .ne (.a 6) 1, .ne (.a 6) 0, .le (.a 5) 2147483647, .ge (.a 5) (-2147483648)]) : MemJ val :=
  leaf h [(.c 0), (.c 0), (.c 0), (.c 0), (.c 0), (.c 0), (.c 0), (.c 2)] rfl (by kernel_rfl)

theorem memJ305 (val : Nat → Int) (h : Holds val [.is (.a 4) 4, .ne (.a 4) 2, .ne (.a 4) 1, .le (.a 3) 15, .ge (.a 3) 0, .is (.a 2) 5, .ne (.a 2) 0, .is (.a 1) 0, .is (.a 0) 8, .ne (.a 0) 0, .is (.a 6) 32, .ne (.a 6) 16, .ne (.a 6) 8, .ne (.a 6) 4, .ne (.a 6) 2, .ne (.a 6) 1, .ne (.a 6) 0, .le (.a 5) 2147483647, .ge (.a 5) (-2147483648)]) : MemJ val :=
  leaf h [(.c 0), (.c 0), (.c 0), (.c 0), (.c 0), (.c 0), (.c 0), (.c 2)] rfl (by kernel_rfl)

theorem memJ306 (val : Nat → Int) (h : Holds val [.is (.a 4) 8, .ne (.a 4) 4, .ne (.a 4) 2, .ne (.a 4) 1, .le (.a 3) 15, .ge (.a 3) 0, .is (.a 2) 5, .ne (.a 2) 0, .is (.a 1) 0, .is (.a 0) 8, .ne (.a 0) 0, .is (.a 6) 32, .ne (.a 6) 16, .ne (.a 6) 8, .ne (.a 6) 4, .ne (.a 6) 2, .ne (.a 6) 1, .ne (.a 6) 0, .le (.a 5) 2147483647, .ge (.a 5) (-2147483648)]) : MemJ val :=
  leaf h [(.c 0), (.c 0), (.c 0), (.c 0), (.c 0), (.c 0), (.c 0), (.c 2)] rfl (by kernel_rfl)

theorem memJ307 (val : Nat → Int) (h : Holds val [.ne (.a 4) 8, .ne (.a 4) 4, .ne (.a 4) 2, .ne (.a 4) 1, .le (.a 3) 15, .ge (.a 3) 0, .is (.a 2) 5, .ne (.a 2) 0, .is (.a 1) 0, .is (.a 0) 8, .ne (.a 0) 0, .is (.a 6) 32, .ne (.a 6) 16, .ne (.a 6) 8, .ne (.a 6) 4, .ne (.a 6) 2, .ne (.a 6) 1, .ne (.a 6) 0, .le (.a 5) 2147483647, .ge (.a 5) (-2147483648)]) : MemJ val :=
  leaf h [(.c 0), (.c 0), (.c 0), (.c 0), (.c 0), (.c 0), (.c 0), (.c 2)] rfl (by kernel_rfl)

theorem memJ308 (val : Nat → Int) (h : Holds val [.ge (.a 3) 16, .ge (.a 3) 0, .is (.a 2) 5, .ne (.a 2) 0, .is (.a 1) 0, .is (.a 0) 8, .ne (.a 0) 0, .is (.a 6) 32, .ne (.a 6) 16, .ne (.a 6) 8, .ne (.a 6) 4, .ne (.a 6) 2, .ne (.a 6) 1, .ne (.a 6) 0, .le (.a 5) 2147483647, .ge (.a 5) (-2147483648)]) : MemJ val :=
  leaf h [(.c 0), (.c 0), (.c 0), (.c 0), (.c 0), (.c 0), (.c 0), (.c 2)] rfl (by kernel_rfl)

theorem memJ309 (val : Nat → Int) (h : Holds val [.le (.a 3) (-1), .is (.a 2) 5, .ne (.a 2) 0, .is (.a 1) 0, .is (.a 0) 8, .ne (.a 0) 0, .is (.a 6) 32, .ne (.a 6) 16, .ne (.a 6) 8, .ne (.a 6) 4, .ne (.a 6) 2, .ne (.a 6) 1, .ne (.a 6) 0, .le (.a 5) 2147483647, .ge (.a 5) (-2147483648)]) : MemJ val :=
  leaf h [(.c 0), (.c 0), (.c 0), (.c 0), (.c 0), (.c 0), (.c 0), (.c 2)] rfl (by kernel_rfl)

theorem memJ310 (val : Nat → Int) (h : Holds val [.ne (.a 2) 5, .ne (.a 2) 0, .is (.a 1) 0, .is (.a 0) 8, .ne (.a 0) 0, .is (.a 6) 32, .ne (.a 6) 16, .ne (.a 6) 8, .ne (.a 6) 4, .ne (.a 6) 2, .ne (.a 6) 1, .ne (.a 6) 0, .le (.a 5) 2147483647, .ge (.a 5) (-2147483648)]) : MemJ val :=
  leaf h [(.c 0), (.c 0), (.c 0), (.c 0), (.c 0), (.c 0), (.c 0), (.c 2)] rfl (by kernel_rfl)

theorem memJ311 (val : Nat → Int) (h : Holds val [.ne (.a 1) 0, .is (.a 0) 8, .ne (.a 0) 0, .is (.a 6) 32, .ne (.a 6) 16, .ne (.a 6) 8, .ne (.a 6) 4, .ne (.a 6) 2, .ne (.a 6) 1, .ne (.a 6) 0, .le (.a 5) 2147483647, .ge (.a 5) (-2147483648)]) : MemJ val :=
  leaf h [(.c 0), (.c 0), (.c 0), (.c 0), (.c 0), (.c 0), (.c 0), (.c 2)] rfl (by kernel_rfl)

theorem memJ312 (val : Nat → Int) (h : Holds val [.is (.a 4) 0, .is (.a 3) 0, .is (.a 2) 0, .le (.a 1) 15, .ge (.a 1) 0, .is (.a 0) 5, .ne (.a 0) 8, .ne (.a 0) 0, .is (.a 6) 32, .ne (.a 6) 16, .ne (.a 6) 8, .ne (.a 6) 4, .ne (.a 6) 2, .ne (.a 6) 1, .ne (.a 6) 0, .le (.a 5) 2147483647, .ge (.a 5) (-2147483648)]) : MemJ val :=
  leaf h [(.a 0), (.a 1), (.a 2), (.a 3), (.a 4), (.a 5), (.a 6), (.c 0)] rfl (by kernel_rfl)

theorem memJ313 (val : Nat → Int) (h : Holds val [.ne (.a 4) 0, .is (.a 3) 0, .is (.a 2) 0, .le (.a 1) 15, .ge (.a 1) 0, .is (.a 0) 5, .ne (.a 0) 8, .ne (.a 0) 0, .is (.a 6) 32, .ne (.a 6) 16, .ne (.a 6) 8, .ne (.a 6) 4, .ne (.a 6) 2, .ne (.a 6) 1, .ne (.a 6) 0, .le (.a 5) 2147483647, .ge (.a 5) (-2147483648)]) : MemJ val :=
  leaf h [(.c 0), (.c 0), (.c 0), (.c 0), (.c 0), (.c 0), (.c 0), (.c 2)] rfl (by kernel_rfl)

theorem memJ314 (val : Nat → Int) (h : Holds val [.ne (.a 3) 0, .is (.a 2) 0, .le (.a 1) 15, .ge (.a 1) 0, .is (.a 0) 5, .ne (.a 0) 8, .ne (.a 0) 0, .is (.a 6) 32, .ne (.a 6) 16, .ne (.a 6) 8, .ne (.a 6) 4, .ne (.a 6) 2, .ne (.a 6) 1, .ne (.a 6) 0, .le (.a 5) 2147483647, .ge (.a 5) (-2147483648)]) : MemJ val :=
  leaf h [(.c 0), (.c 0), (.c 0), (.c 0), (.c 0), (.c 0), (.c 0), (.c 2)] rfl (by kernel_rfl)

theorem memJ315 (val : Nat → Int) (h : Holds val [.is (.a 1) 4, .is (.a 3) 4, .is (.a 4) 1, .le (.a 3) 15, .ge (.a 3) 0, .is (.a 2) 5, .ne (.a 2) 0, .le (.a 1) 15, .ge (.a 1) 0, .is (.a 0) 5, .ne (.a 0) 8, .ne (.a 0) 0, .is (.a 6) 32, .ne (.a 6) 16, .ne (.a 6) 8, .ne (.a 6) 4, .ne (.a 6) 2, .ne (.a 6) 1, .ne (.a 6) 0, .le (.a 5) 2147483647, .ge (.a 5) (-2147483648)]) : MemJ val :=
  leaf h [(.c 0), (.c 0), (.c 0), (.c 0), (.c 0), (.c 0), (.c 0), (.c 2)] rfl (by kernel_rfl)

theorem memJ316 (val : Nat → Int) (h : Holds val [.ne (.a 1) 4, .is (.a 3) 4, .is (.a 4) 1, .le (.a 3) 15, .ge (.a 3) 0, .is (.a 2) 5, .ne (.a 2) 0, .le (.a 1) 15, .ge (.a 1) 0, .is (.a 0) 5, .ne (.a 0) 8, .ne (.a 0) 0, .is (.a 6) 32, .ne (.a 6) 16, .ne (.a 6) 8, .ne (.a 6) 4, .ne (.a 6) 2, .ne (.a 6) 1, .ne (.a 6) 0, .le (.a 5) 2147483647, .ge (.a 5) (-2147483648)]) : MemJ val :=
  leaf h [(.a 2), (.a 3), (.a 0), (.a 1), (.a 4), (.a 5), (.a 6), (.c 0)] rfl (by kernel_rfl)

theorem memJ317 (val : Nat → Int) (h : Holds val [.ne (.a 3) 4, .is (.a 4) 1, .le (.a 3) 15, .ge (.a 3) 0, .is (.a 2) 5, .ne (.a 2) 0, .le (.a 1) 15, .ge (.a 1) 0, .is (.a 0) 5, .ne (.a 0) 8, .ne (.a 0) 0, .is (.a 6) 32, .ne (.a 6) 16, .ne (.a 6) 8, .ne (.a 6) 4, .ne (.a 6) 2, .ne (.a 6) 1, .ne (.a 6) 0, .le (.a 5) 2147483647, .ge (.a 5) (-2147483648)]) : MemJ val :=
  leaf h [(.a 0), (.a 1), (.a 2), (.a 3), (.a 4), (.a 5), (.a 6), (.c 0)] rfl (by kernel_rfl)

theorem memJ318 (val : Nat → Int) (h : Holds val [.is (.a 3) 4, .is (.a 4) 2, .ne (.a 4) 1, .le (.a 3) 15, .ge (.a 3) 0, .is (.a 2) 5, .ne (.a 2) 0, .le (.a 1) 15, .ge (.a 1) 0, .is (.a 0) 5, .ne (.a 0) 8, .ne (.a 0) 0, .is (.a 6) 32, .ne (.a 6) 16, .ne (.a 6) 8, .ne (.a 6) 4, .ne (.a 6) 2, .ne (.a 6) 1, .ne (.a 6) 0, .le (.a 5) 2147483647, .ge (.a 5) (-2147483648)]) : MemJ val :=
  leaf h [(.c 0), (.c 0), (.c 0), (.c 0), (.c 0), (.c 0), (.c 0), (.c 2)] rfl (by kernel_rfl)

theorem memJ319 (val : Nat → Int) (h : Holds val [.ne (.a 3) 4, .is (.a 4) 2, .ne (.a 4) 1, .le (.a 3) 15, .ge (.a 3) 0, .is (.a 2) 5, .ne (.a 2) 0, .le (.a 1) 15, .ge (.a 1) 0, .is (.a 0) 5, .ne (.a 0) 8, .ne (.a 0) 0, .is (.a 6) 32, .ne (.a 6) 16, .ne (.a 6) 8, .ne (.a 6) 4, .ne (.a 6) 2, .ne (.a 6) 1, .ne (.a 6) 0, .le (.a 5) 2147483647, .ge (.a 5) (-2147483648)]) : MemJ val :=
  leaf h [(.a 0), (.a 1), (.a 2), (.a 3), (.a 4), (.a 5), (.a 6), (.c 0)] rfl (by kernel_rfl)

theorem memJ320 (val : Nat → Int) (h : Holds val [.is (.a 3) 4, .is (.a 4) 4, .ne (.a 4) 2, .ne (.a 4) 1, .le (.a 3) 15, .ge (.a 3) 0, .is (.a 2) 5, .ne (.a 2) 0, .le (.a 1) 15, .ge (.a 1) 0, .is (.a 0) 5, .ne (.a 0) 8, .ne (.a 0) 0, .is (.a 6) 32, .ne (.a 6) 16, .ne (.a 6) 8, .ne (.a 6) 4, .ne (.a 6) 2, .ne (.a 6) 1, .ne (.a 6) 0, .le (.a 5) 2147483647, .ge (.a 5) (-2147483648)]) : MemJ val :=
  leaf h [(.c 0), (.c 0), (.c 0), (.c 0), (.c 0), (.c 0), (.c 0), (.c 2)] rfl (by kernel_rfl)

theorem memJ321 (val : Nat → Int) (h : Holds val [.ne (.a 3) 4, .is (.a 4) 4, .ne (.a 4) 2, .ne (.a 4) 1, .le (.a 3) 15, .ge (.a 3) 0, .is (.a 2) 5, .ne (.a 2) 0, .le (.a 1) 15, .ge (.a 1) 0, .is (.a 0) 5, .ne (.a 0) 8, .ne (.a 0) 0, .is (.a 6) 32, .ne (.a 6) 16, .ne (.a 6) 8, .ne (.a 6) 4, .ne (.a 6) 2, .ne (.a 6) 1, .ne (.a 6) 0, .le (.a 5) 2147483647, .ge (.a 5) (-2147483648)]) : MemJ val :=
  leaf h [(.a 0), (.a 1), (.a 2), (.a 3), (.a 4), (.a 5), (.a 6), (.c 0)] rfl (by kernel_rfl)

theorem memJ322 (val : Nat → Int) (h : Holds val [.is (.a 3) 4, .is (.a 4) 8, .ne (.a 4) 4, .ne (.a 4) 2, .ne (.a 4) 1, .le (.a 3) 15, .ge (.a 3) 0, .is (.a 2) 5, .ne (.a 2) 0, .le (.a 1) 15, .ge (.a 1) 0, .is (.a 0) 5, .ne (.a 0) 8, .ne (.a 0) 0, .is (.a 6) 32, .ne (.a 6) 16, .ne (.a 6) 8, .ne (.a 6) 4, .ne (.a 6) 2, .ne (.a 6) 1, .ne (.a 6) 0, .le (.a 5) 2147483647, .ge (.a 5) (-2147483648)]) : MemJ val :=
  leaf h [(.c 0), (.c 0), (.c 0), (.c 0), (.c 0), (.c 0), (.c 0), (.c 2)] rfl (by kernel_rfl)

theorem memJ323 (val : Nat → Int) (h : Holds val [.ne (.a 3) 4, .is (.a 4) 8, .ne (.a 4) 4, .ne (.a 4) 2, .ne (.a 4) 1, .le (.a 3) 15, .ge (.a 3) 0, .is (.a 2) 5, .ne (.a 2) 0, .le (.a 1) 15, .ge (.a 1) 0, .is (.a 0) 5, .ne (.a 0) 8, .ne (.a 0) 0, .is (.a 6) 32, .ne (.a 6) 16, .ne (.a 6) 8, .ne (.a 6) 4, .ne (.a 6) 2, .ne (.a 6) 1, .ne (.a 6) 0, .le (.a 5) 2147483647, .ge (.a 5) (-2147483648)]) : MemJ val :=
  leaf h [(.a 0), (.a 1), (.a 2), (.a 3), (.a 4), (.a 5), (.a 6), (.c 0)] rfl (by kernel_rfl)

theorem memJ324 (val : Nat → Int) (h : Holds val [.ne (.a 4) 8, .ne (.a 4) 4, .ne (.a 4) 2, .ne (.a 4) 1, .le (.a 3) 15, .ge (.a 3) 0, .is (.a 2) 5, .ne (.a 2) 0, .le (.a 1) 15, .ge (.a 1) 0, .is (.a 0) 5, .ne (.a 0) 8, .ne (.a 0) 0, .is (.a 6) 32, .ne (.a 6) 16, .ne (.a 6) 8, .ne (.a 6) 4, .ne (.a 6) 2, .ne (.a 6) 1, .ne (.a 6) 0, .le (.a 5) 2147483647, .ge (.a 5) (-2147483648)]) : MemJ val :=
  leaf h [(.c 0), (.c 0), (.c 0), (.c 0), (.c 0), (.c 0), (.c 0), (.c 2)] rfl (by kernel_rfl)

theorem memJ325 (val : Nat → Int) (h : Holds val [.ge (.a 3) 16, .ge (.a 3) 0, .is (.a 2) 5, .ne (.a 2) 0, .le (.a 1) 15, .ge (.a 1) 0, .is (.a 0) 5, .ne (.a 0) 8, .ne (.a 0) 0, .is (.a 6) 32, .ne (.a 6) 16, .ne (.a 6) 8, .ne (.a 6) 4, .ne (.a 6) 2, .ne (.a 6) 1, .ne (.a 6) 0, .le (.a 5) 2147483647, .ge (.a 5) (-2147483648)]) : MemJ val :=
  leaf h [(.c 0), (.c 0), (.c 0), (.c 0), (.c 0), (.c 0), (.c 0), (.c 2)] rfl (by kernel_rfl)

theorem memJ326 (val : Nat → Int) (h : Holds val [.le (.a 3) (-1), .is (.a 2) 5, .ne (.a 2) 0, .le (.a 1) 15, .ge (.a 1) 0, .is (.a 0) 5, .ne (.a 0) 8, .ne (.a 0) 0, .is (.a 6) 32, .ne (.a 6) 16, .ne (.a 6) 8, .ne (.a 6) 4, .ne (.a 6) 2, .ne (.a 6) 1, .ne (.a 6) 0, .le (.a 5) 2147483647, .ge (.a 5) (-2147483648)]) : MemJ val :=
  leaf h [(.c 0), (.c 0), (.c 0), (.c 0), (.c 0), (.c 0), (.c 0), (.c 2)] rfl (by kernel_rfl)

theorem memJ327 (val : Nat → Int) (h : Holds val [.ne (.a 2) 5, .ne (.a 2) 0, .le (.a 1) 15, .ge (.a 1) 0, .is (.a 0) 5, .ne (.a 0) 8, .ne (.a 0) 0, .is (.a 6) 32, .ne (.a 6) 16, .ne (.a 6) 8, .ne (.a 6) 4, .ne (.a 6) 2, .ne (.a 6) 1, .ne (.a 6) 0, .le (.a 5) 2147483647, .ge (.a 5) (-2147483648)]) : MemJ val :=
  leaf h [(.c 0), (.c 0), (.c 0), (.c 0), (.c 0), (.c 0), (.c 0), (.c 2)] rfl (by kernel_rfl)

theorem memJ328 (val : Nat → Int) (h : Holds val [.ge (.a 1) 16, .ge (.a 1) 0, .is (.a 0) 5, .ne (.a 0) 8, .ne (.a 0) 0, .is (.a 6) 32, .ne (.a 6) 16, .ne (.a 6) 8, .ne (.a 6) 4, .ne (.a 6) 2, .ne (.a 6) 1, .ne (.a 6) 0, .le (.a 5) 2147483647, .ge (.a 5) (-2147483648)]) : MemJ val :=
  leaf h [(.c 0), (.c 0), (.c 0), (.c 0), (.c 0), (.c 0), (.c 0), (.c 2)] rfl (by kernel_rfl)

theorem memJ329 (val : Nat → Int) (h : Holds val [.le (.a 1) (-1), .is (.a 0) 5, .ne (.a 0) 8, .ne (.a 0) 0, .is (.a 6) 32, .ne (.a 6) 16, .ne (.a 6) 8, .ne (.a 6) 4, .ne (.a 6) 2, .ne (.a 6) 1, .ne (.a 6) 0, .le (.a 5) 2147483647, .ge (.a 5) (-2147483648)]) : MemJ val :=
  leaf h [(.c 0), (.c 0), (.c 0), (.c 0), (.c 0), (.c 0), (.c 0), (.c 2)] rfl (by kernel_rfl)

theorem memJ330 (val : Nat → Int) (h : Holds val [.ne (.a 0) 5, .ne (.a 0) 8, .ne (.a 0) 0, .is (.a 6) 32, .ne (.a 6) 16, .ne (.a 6) 8, .ne (.a 6) 4, .ne (.a 6) 2, .ne (.a 6) 1, .ne (.a 6) 0, .le (.a 5) 2147483647, .ge (.a 5) (-2147483648)]) : MemJ val :=
  leaf h [(.c 0), (.c 0), (.c 0), (.c 0), (.c 0), (.c 0), (.c 0), (.c 2)] rfl (by kernel_rfl)

theorem memJ331 (val : Nat → Int) (h : Holds val [.ne (.a 6) 32, .ne (.a 6) 16, .ne (.a 6) 8, .ne (.a 6) 4, .ne (.a 6) 2, .ne (.a 6) 1, .ne (.a 6) 0, .le (.a 5) 2147483647, .ge (.a 5) (-2147483648)]) : MemJ val :=
  leaf h [(.c 0), (.c 0), (.c 0), (.c 0), (.c 0), (.c 0), (.c 0), (.c 2)] rfl (by kernel_rfl)

end Go.Proofs.Ytlegmdfceifkcaa.Tab
