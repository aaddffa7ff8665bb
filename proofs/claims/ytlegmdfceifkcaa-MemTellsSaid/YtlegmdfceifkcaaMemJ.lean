/-
  All ways together.
-/
import Derived.Test.YtlegmdfceifkcaaMemJ0
import Derived.Test.YtlegmdfceifkcaaMemJ1
import Derived.Test.YtlegmdfceifkcaaMemJ2
namespace Go.Proofs.Ytlegmdfceifkcaa.Tab
open Go.Sim
set_option maxRecDepth 100000

theorem memJSub2 (val : Nat → Int) (h : Holds val [.is (.a 1) 0, .is (.a 0) 0, .is (.a 6) 0, .le (.a 5) 2147483647, .ge (.a 5) (-2147483648)]) : MemJ val :=
  by_way (.eq (.a 2) (.c 0)) (.is (.a 2) 0) (.ne (.a 2) 0) (by kernel_rfl) (by kernel_rfl) h
  (fun h => by_way (.eq (.a 3) (.c 0)) (.is (.a 3) 0) (.ne (.a 3) 0) (by kernel_rfl) (by kernel_rfl) h
  (fun h => by_way (.eq (.a 4) (.c 0)) (.is (.a 4) 0) (.ne (.a 4) 0) (by kernel_rfl) (by kernel_rfl) h
  (fun h => memJ2 val h)
  (fun h => memJ3 val h))
  (fun h => memJ4 val h))
  (fun h => by_way (.eq (.a 2) (.c 5)) (.is (.a 2) 5) (.ne (.a 2) 5) (by kernel_rfl) (by kernel_rfl) h
  (fun h => by_way (.le (.c 0) (.a 3)) (.ge (.a 3) 0) (.le (.a 3) (-1)) (by kernel_rfl) (by kernel_rfl) h
  (fun h => by_way (.lt (.a 3) (.c 16)) (.le (.a 3) 15) (.ge (.a 3) 16) (by kernel_rfl) (by kernel_rfl) h
  (fun h => by_way (.eq (.a 4) (.c 1)) (.is (.a 4) 1) (.ne (.a 4) 1) (by kernel_rfl) (by kernel_rfl) h
  (fun h => by_way (.eq (.a 3) (.c 4)) (.is (.a 3) 4) (.ne (.a 3) 4) (by kernel_rfl) (by kernel_rfl) h
  (fun h => memJ5 val h)
  (fun h => memJ6 val h))
  (fun h => by_way (.eq (.a 4) (.c 2)) (.is (.a 4) 2) (.ne (.a 4) 2) (by kernel_rfl) (by kernel_rfl) h
  (fun h => by_way (.eq (.a 3) (.c 4)) (.is (.a 3) 4) (.ne (.a 3) 4) (by kernel_rfl) (by kernel_rfl) h
  (fun h => memJ7 val h)
  (fun h => memJ8 val h))
  (fun h => by_way (.eq (.a 4) (.c 4)) (.is (.a 4) 4) (.ne (.a 4) 4) (by kernel_rfl) (by kernel_rfl) h
  (fun h => by_way (.eq (.a 3) (.c 4)) (.is (.a 3) 4) (.ne (.a 3) 4) (by kernel_rfl) (by kernel_rfl) h
  (fun h => memJ9 val h)
  (fun h => memJ10 val h))
  (fun h => by_way (.eq (.a 4) (.c 8)) (.is (.a 4) 8) (.ne (.a 4) 8) (by kernel_rfl) (by kernel_rfl) h
  (fun h => by_way (.eq (.a 3) (.c 4)) (.is (.a 3) 4) (.ne (.a 3) 4) (by kernel_rfl) (by kernel_rfl) h
  (fun h => memJ11 val h)
  (fun h => memJ12 val h))
  (fun h => memJ13 val h)))))
  (fun h => memJ14 val h))
  (fun h => memJ15 val h))
  (fun h => memJ16 val h))

theorem memJSub1 (val : Nat → Int) (h : Holds val [.is (.a 0) 0, .is (.a 6) 0, .le (.a 5) 2147483647, .ge (.a 5) (-2147483648)]) : MemJ val :=
  by_way (.eq (.a 1) (.c 0)) (.is (.a 1) 0) (.ne (.a 1) 0) (by kernel_rfl) (by kernel_rfl) h
  (fun h => memJSub2 val h)
  (fun h => memJ17 val h)

theorem memJSub8 (val : Nat → Int) (h : Holds val [.ne (.a 2) 0, .le (.a 1) 15, .ge (.a 1) 0, .is (.a 0) 5, .ne (.a 0) 8, .ne (.a 0) 0, .is (.a 6) 0, .le (.a 5) 2147483647, .ge (.a 5) (-2147483648)]) : MemJ val :=
  by_way (.eq (.a 2) (.c 5)) (.is (.a 2) 5) (.ne (.a 2) 5) (by kernel_rfl) (by kernel_rfl) h
  (fun h => by_way (.le (.c 0) (.a 3)) (.ge (.a 3) 0) (.le (.a 3) (-1)) (by kernel_rfl) (by kernel_rfl) h
  (fun h => by_way (.lt (.a 3) (.c 16)) (.le (.a 3) 15) (.ge (.a 3) 16) (by kernel_rfl) (by kernel_rfl) h
  (fun h => by_way (.eq (.a 4) (.c 1)) (.is (.a 4) 1) (.ne (.a 4) 1) (by kernel_rfl) (by kernel_rfl) h
  (fun h => by_way (.eq (.a 3) (.c 4)) (.is (.a 3) 4) (.ne (.a 3) 4) (by kernel_rfl) (by kernel_rfl) h
  (fun h => by_way (.eq (.a 1) (.c 4)) (.is (.a 1) 4) (.ne (.a 1) 4) (by kernel_rfl) (by kernel_rfl) h
  (fun h => memJ33 val h)
  (fun h => memJ34 val h))
  (fun h => memJ35 val h))
  (fun h => by_way (.eq (.a 4) (.c 2)) (.is (.a 4) 2) (.ne (.a 4) 2) (by kernel_rfl) (by kernel_rfl) h
  (fun h => by_way (.eq (.a 3) (.c 4)) (.is (.a 3) 4) (.ne (.a 3) 4) (by kernel_rfl) (by kernel_rfl) h
  (fun h => memJ36 val h)
  (fun h => memJ37 val h))
  (fun h => by_way (.eq (.a 4) (.c 4)) (.is (.a 4) 4) (.ne (.a 4) 4) (by kernel_rfl) (by kernel_rfl) h
  (fun h => by_way (.eq (.a 3) (.c 4)) (.is (.a 3) 4) (.ne (.a 3) 4) (by kernel_rfl) (by kernel_rfl) h
  (fun h => memJ38 val h)
  (fun h => memJ39 val h))
  (fun h => by_way (.eq (.a 4) (.c 8)) (.is (.a 4) 8) (.ne (.a 4) 8) (by kernel_rfl) (by kernel_rfl) h
  (fun h => by_way (.eq (.a 3) (.c 4)) (.is (.a 3) 4) (.ne (.a 3) 4) (by kernel_rfl) (by kernel_rfl) h
  (fun h => memJ40 val h)
  (fun h => memJ41 val h))
  (fun h => memJ42 val h)))))
  (fun h => memJ43 val h))
  (fun h => memJ44 val h))
  (fun h => memJ45 val h)

theorem memJSub7 (val : Nat → Int) (h : Holds val [.le (.a 1) 15, .ge (.a 1) 0, .is (.a 0) 5, .ne (.a 0) 8, .ne (.a 0) 0, .is (.a 6) 0, .le (.a 5) 2147483647, .ge (.a 5) (-2147483648)]) : MemJ val :=
  by_way (.eq (.a 2) (.c 0)) (.is (.a 2) 0) (.ne (.a 2) 0) (by kernel_rfl) (by kernel_rfl) h
  (fun h => by_way (.eq (.a 3) (.c 0)) (.is (.a 3) 0) (.ne (.a 3) 0) (by kernel_rfl) (by kernel_rfl) h
  (fun h => by_way (.eq (.a 4) (.c 0)) (.is (.a 4) 0) (.ne (.a 4) 0) (by kernel_rfl) (by kernel_rfl) h
  (fun h => memJ30 val h)
  (fun h => memJ31 val h))
  (fun h => memJ32 val h))
  (fun h => memJSub8 val h)

theorem memJSub6 (val : Nat → Int) (h : Holds val [.ge (.a 1) 0, .is (.a 0) 5, .ne (.a 0) 8, .ne (.a 0) 0, .is (.a 6) 0, .le (.a 5) 2147483647, .ge (.a 5) (-2147483648)]) : MemJ val :=
  by_way (.lt (.a 1) (.c 16)) (.le (.a 1) 15) (.ge (.a 1) 16) (by kernel_rfl) (by kernel_rfl) h
  (fun h => memJSub7 val h)
  (fun h => memJ46 val h)

theorem memJSub5 (val : Nat → Int) (h : Holds val [.is (.a 0) 5, .ne (.a 0) 8, .ne (.a 0) 0, .is (.a 6) 0, .le (.a 5) 2147483647, .ge (.a 5) (-2147483648)]) : MemJ val :=
  by_way (.le (.c 0) (.a 1)) (.ge (.a 1) 0) (.le (.a 1) (-1)) (by kernel_rfl) (by kernel_rfl) h
  (fun h => memJSub6 val h)
  (fun h => memJ47 val h)

theorem memJSub4 (val : Nat → Int) (h : Holds val [.ne (.a 0) 8, .ne (.a 0) 0, .is (.a 6) 0, .le (.a 5) 2147483647, .ge (.a 5) (-2147483648)]) : MemJ val :=
  by_way (.eq (.a 0) (.c 5)) (.is (.a 0) 5) (.ne (.a 0) 5) (by kernel_rfl) (by kernel_rfl) h
  (fun h => memJSub5 val h)
  (fun h => memJ48 val h)

theorem memJSub3 (val : Nat → Int) (h : Holds val [.ne (.a 0) 0, .is (.a 6) 0, .le (.a 5) 2147483647, .ge (.a 5) (-2147483648)]) : MemJ val :=
  by_way (.eq (.a 0) (.c 8)) (.is (.a 0) 8) (.ne (.a 0) 8) (by kernel_rfl) (by kernel_rfl) h
  (fun h => by_way (.eq (.a 1) (.c 0)) (.is (.a 1) 0) (.ne (.a 1) 0) (by kernel_rfl) (by kernel_rfl) h
  (fun h => by_way (.eq (.a 2) (.c 0)) (.is (.a 2) 0) (.ne (.a 2) 0) (by kernel_rfl) (by kernel_rfl) h
  (fun h => by_way (.eq (.a 3) (.c 0)) (.is (.a 3) 0) (.ne (.a 3) 0) (by kernel_rfl) (by kernel_rfl) h
  (fun h => by_way (.eq (.a 4) (.c 0)) (.is (.a 4) 0) (.ne (.a 4) 0) (by kernel_rfl) (by kernel_rfl) h
  (fun h => memJ18 val h)
  (fun h => memJ19 val h))
  (fun h => memJ20 val h))
  (fun h => by_way (.eq (.a 2) (.c 5)) (.is (.a 2) 5) (.ne (.a 2) 5) (by kernel_rfl) (by kernel_rfl) h
  (fun h => by_way (.le (.c 0) (.a 3)) (.ge (.a 3) 0) (.le (.a 3) (-1)) (by kernel_rfl) (by kernel_rfl) h
  (fun h => by_way (.lt (.a 3) (.c 16)) (.le (.a 3) 15) (.ge (.a 3) 16) (by kernel_rfl) (by kernel_rfl) h
  (fun h => by_way (.eq (.a 4) (.c 1)) (.is (.a 4) 1) (.ne (.a 4) 1) (by kernel_rfl) (by kernel_rfl) h
  (fun h => memJ21 val h)
  (fun h => by_way (.eq (.a 4) (.c 2)) (.is (.a 4) 2) (.ne (.a 4) 2) (by kernel_rfl) (by kernel_rfl) h
  (fun h => memJ22 val h)
  (fun h => by_way (.eq (.a 4) (.c 4)) (.is (.a 4) 4) (.ne (.a 4) 4) (by kernel_rfl) (by kernel_rfl) h
  (fun h => memJ23 val h)
  (fun h => by_way (.eq (.a 4) (.c 8)) (.is (.a 4) 8) (.ne (.a 4) 8) (by kernel_rfl) (by kernel_rfl) h
  (fun h => memJ24 val h)
  (fun h => memJ25 val h)))))
  (fun h => memJ26 val h))
  (fun h => memJ27 val h))
  (fun h => memJ28 val h)))
  (fun h => memJ29 val h))
  (fun h => memJSub4 val h)

theorem memJSub0 (val : Nat → Int) (h : Holds val [.is (.a 6) 0, .le (.a 5) 2147483647, .ge (.a 5) (-2147483648)]) : MemJ val :=
  by_way (.eq (.a 0) (.c 0)) (.is (.a 0) 0) (.ne (.a 0) 0) (by kernel_rfl) (by kernel_rfl) h
  (fun h => memJSub1 val h)
  (fun h => memJSub3 val h)

theorem memJSub11 (val : Nat → Int) (h : Holds val [.is (.a 1) 0, .is (.a 0) 0, .is (.a 6) 1, .ne (.a 6) 0, .le (.a 5) 2147483647, .ge (.a 5) (-2147483648)]) : MemJ val :=
  by_way (.eq (.a 2) (.c 0)) (.is (.a 2) 0) (.ne (.a 2) 0) (by kernel_rfl) (by kernel_rfl) h
  (fun h => by_way (.eq (.a 3) (.c 0)) (.is (.a 3) 0) (.ne (.a 3) 0) (by kernel_rfl) (by kernel_rfl) h
  (fun h => by_way (.eq (.a 4) (.c 0)) (.is (.a 4) 0) (.ne (.a 4) 0) (by kernel_rfl) (by kernel_rfl) h
  (fun h => memJ49 val h)
  (fun h => memJ50 val h))
  (fun h => memJ51 val h))
  (fun h => by_way (.eq (.a 2) (.c 5)) (.is (.a 2) 5) (.ne (.a 2) 5) (by kernel_rfl) (by kernel_rfl) h
  (fun h => by_way (.le (.c 0) (.a 3)) (.ge (.a 3) 0) (.le (.a 3) (-1)) (by kernel_rfl) (by kernel_rfl) h
  (fun h => by_way (.lt (.a 3) (.c 16)) (.le (.a 3) 15) (.ge (.a 3) 16) (by kernel_rfl) (by kernel_rfl) h
  (fun h => by_way (.eq (.a 4) (.c 1)) (.is (.a 4) 1) (.ne (.a 4) 1) (by kernel_rfl) (by kernel_rfl) h
  (fun h => by_way (.eq (.a 3) (.c 4)) (.is (.a 3) 4) (.ne (.a 3) 4) (by kernel_rfl) (by kernel_rfl) h
  (fun h => memJ52 val h)
  (fun h => memJ53 val h))
  (fun h => by_way (.eq (.a 4) (.c 2)) (.is (.a 4) 2) (.ne (.a 4) 2) (by kernel_rfl) (by kernel_rfl) h
  (fun h => by_way (.eq (.a 3) (.c 4)) (.is (.a 3) 4) (.ne (.a 3) 4) (by kernel_rfl) (by kernel_rfl) h
  (fun h => memJ54 val h)
  (fun h => memJ55 val h))
  (fun h => by_way (.eq (.a 4) (.c 4)) (.is (.a 4) 4) (.ne (.a 4) 4) (by kernel_rfl) (by kernel_rfl) h
  (fun h => by_way (.eq (.a 3) (.c 4)) (.is (.a 3) 4) (.ne (.a 3) 4) (by kernel_rfl) (by kernel_rfl) h
  (fun h => memJ56 val h)
  (fun h => memJ57 val h))
  (fun h => by_way (.eq (.a 4) (.c 8)) (.is (.a 4) 8) (.ne (.a 4) 8) (by kernel_rfl) (by kernel_rfl) h
  (fun h => by_way (.eq (.a 3) (.c 4)) (.is (.a 3) 4) (.ne (.a 3) 4) (by kernel_rfl) (by kernel_rfl) h
  (fun h => memJ58 val h)
  (fun h => memJ59 val h))
  (fun h => memJ60 val h)))))
  (fun h => memJ61 val h))
  (fun h => memJ62 val h))
  (fun h => memJ63 val h))

theorem memJSub10 (val : Nat → Int) (h : Holds val [.is (.a 0) 0, .is (.a 6) 1, .ne (.a 6) 0, .le (.a 5) 2147483647, .ge (.a 5) (-2147483648)]) : MemJ val :=
  by_way (.eq (.a 1) (.c 0)) (.is (.a 1) 0) (.ne (.a 1) 0) (by kernel_rfl) (by kernel_rfl) h
  (fun h => memJSub11 val h)
  (fun h => memJ64 val h)

theorem memJSub17 (val : Nat → Int) (h : Holds val [.ne (.a 2) 0, .le (.a 1) 15, .ge (.a 1) 0, .is (.a 0) 5, .ne (.a 0) 8, .ne (.a 0) 0, .is (.a 6) 1, .ne (.a 6) 0, .le (.a 5) 2147483647, .ge (.a 5) (-2147483648)]) : MemJ val :=
  by_way (.eq (.a 2) (.c 5)) (.is (.a 2) 5) (.ne (.a 2) 5) (by kernel_rfl) (by kernel_rfl) h
  (fun h => by_way (.le (.c 0) (.a 3)) (.ge (.a 3) 0) (.le (.a 3) (-1)) (by kernel_rfl) (by kernel_rfl) h
  (fun h => by_way (.lt (.a 3) (.c 16)) (.le (.a 3) 15) (.ge (.a 3) 16) (by kernel_rfl) (by kernel_rfl) h
  (fun h => by_way (.eq (.a 4) (.c 1)) (.is (.a 4) 1) (.ne (.a 4) 1) (by kernel_rfl) (by kernel_rfl) h
  (fun h => by_way (.eq (.a 3) (.c 4)) (.is (.a 3) 4) (.ne (.a 3) 4) (by kernel_rfl) (by kernel_rfl) h
  (fun h => by_way (.eq (.a 1) (.c 4)) (.is (.a 1) 4) (.ne (.a 1) 4) (by kernel_rfl) (by kernel_rfl) h
  (fun h => memJ80 val h)
  (fun h => memJ81 val h))
  (fun h => memJ82 val h))
  (fun h => by_way (.eq (.a 4) (.c 2)) (.is (.a 4) 2) (.ne (.a 4) 2) (by kernel_rfl) (by kernel_rfl) h
  (fun h => by_way (.eq (.a 3) (.c 4)) (.is (.a 3) 4) (.ne (.a 3) 4) (by kernel_rfl) (by kernel_rfl) h
  (fun h => memJ83 val h)
  (fun h => memJ84 val h))
  (fun h => by_way (.eq (.a 4) (.c 4)) (.is (.a 4) 4) (.ne (.a 4) 4) (by kernel_rfl) (by kernel_rfl) h
  (fun h => by_way (.eq (.a 3) (.c 4)) (.is (.a 3) 4) (.ne (.a 3) 4) (by kernel_rfl) (by kernel_rfl) h
  (fun h => memJ85 val h)
  (fun h => memJ86 val h))
  (fun h => by_way (.eq (.a 4) (.c 8)) (.is (.a 4) 8) (.ne (.a 4) 8) (by kernel_rfl) (by kernel_rfl) h
  (fun h => by_way (.eq (.a 3) (.c 4)) (.is (.a 3) 4) (.ne (.a 3) 4) (by kernel_rfl) (by kernel_rfl) h
  (fun h => memJ87 val h)
  (fun h => memJ88 val h))
  (fun h => memJ89 val h)))))
  (fun h => memJ90 val h))
  (fun h => memJ91 val h))
  (fun h => memJ92 val h)

theorem memJSub16 (val : Nat → Int) (h : Holds val [.le (.a 1) 15, .ge (.a 1) 0, .is (.a 0) 5, .ne (.a 0) 8, .ne (.a 0) 0, .is (.a 6) 1, .ne (.a 6) 0, .le (.a 5) 2147483647, .ge (.a 5) (-2147483648)]) : MemJ val :=
  by_way (.eq (.a 2) (.c 0)) (.is (.a 2) 0) (.ne (.a 2) 0) (by kernel_rfl) (by kernel_rfl) h
  (fun h => by_way (.eq (.a 3) (.c 0)) (.is (.a 3) 0) (.ne (.a 3) 0) (by kernel_rfl) (by kernel_rfl) h
  (fun h => by_way (.eq (.a 4) (.c 0)) (.is (.a 4) 0) (.ne (.a 4) 0) (by kernel_rfl) (by kernel_rfl) h
  (fun h => memJ77 val h)
  (fun h => memJ78 val h))
  (fun h => memJ79 val h))
  (fun h => memJSub17 val h)

theorem memJSub15 (val : Nat → Int) (h : Holds val [.ge (.a 1) 0, .is (.a 0) 5, .ne (.a 0) 8, .ne (.a 0) 0, .is (.a 6) 1, .ne (.a 6) 0, .le (.a 5) 2147483647, .ge (.a 5) (-2147483648)]) : MemJ val :=
  by_way (.lt (.a 1) (.c 16)) (.le (.a 1) 15) (.ge (.a 1) 16) (by kernel_rfl) (by kernel_rfl) h
  (fun h => memJSub16 val h)
  (fun h => memJ93 val h)

theorem memJSub14 (val : Nat → Int) (h : Holds val [.is (.a 0) 5, .ne (.a 0) 8, .ne (.a 0) 0, .is (.a 6) 1, .ne (.a 6) 0, .le (.a 5) 2147483647, .ge (.a 5) (-2147483648)]) : MemJ val :=
  by_way (.le (.c 0) (.a 1)) (.ge (.a 1) 0) (.le (.a 1) (-1)) (by kernel_rfl) (by kernel_rfl) h
  (fun h => memJSub15 val h)
  (fun h => memJ94 val h)

theorem memJSub13 (val : Nat → Int) (h : Holds val [.ne (.a 0) 8, .ne (.a 0) 0, .is (.a 6) 1, .ne (.a 6) 0, .le (.a 5) 2147483647, .ge (.a 5) (-2147483648)]) : MemJ val :=
  by_way (.eq (.a 0) (.c 5)) (.is (.a 0) 5) (.ne (.a 0) 5) (by kernel_rfl) (by kernel_rfl) h
  (fun h => memJSub14 val h)
  (fun h => memJ95 val h)

theorem memJSub12 (val : Nat → Int) (h : Holds val [.ne (.a 0) 0, .is (.a 6) 1, .ne (.a 6) 0, .le (.a 5) 2147483647, .ge (.a 5) (-2147483648)]) : MemJ val :=
  by_way (.eq (.a 0) (.c 8)) (.is (.a 0) 8) (.ne (.a 0) 8) (by kernel_rfl) (by kernel_rfl) h
  (fun h => by_way (.eq (.a 1) (.c 0)) (.is (.a 1) 0) (.ne (.a 1) 0) (by kernel_rfl) (by kernel_rfl) h
  (fun h => by_way (.eq (.a 2) (.c 0)) (.is (.a 2) 0) (.ne (.a 2) 0) (by kernel_rfl) (by kernel_rfl) h
  (fun h => by_way (.eq (.a 3) (.c 0)) (.is (.a 3) 0) (.ne (.a 3) 0) (by kernel_rfl) (by kernel_rfl) h
  (fun h => by_way (.eq (.a 4) (.c 0)) (.is (.a 4) 0) (.ne (.a 4) 0) (by kernel_rfl) (by kernel_rfl) h
  (fun h => memJ65 val h)
  (fun h => memJ66 val h))
  (fun h => memJ67 val h))
  (fun h => by_way (.eq (.a 2) (.c 5)) (.is (.a 2) 5) (.ne (.a 2) 5) (by kernel_rfl) (by kernel_rfl) h
  (fun h => by_way (.le (.c 0) (.a 3)) (.ge (.a 3) 0) (.le (.a 3) (-1)) (by kernel_rfl) (by kernel_rfl) h
  (fun h => by_way (.lt (.a 3) (.c 16)) (.le (.a 3) 15) (.ge (.a 3) 16) (by kernel_rfl) (by kernel_rfl) h
  (fun h => by_way (.eq (.a 4) (.c 1)) (.is (.a 4) 1) (.ne (.a 4) 1) (by kernel_rfl) (by kernel_rfl) h
  (fun h => memJ68 val h)
  (fun h => by_way (.eq (.a 4) (.c 2)) (.is (.a 4) 2) (.ne (.a 4) 2) (by kernel_rfl) (by kernel_rfl) h
  (fun h => memJ69 val h)
  (fun h => by_way (.eq (.a 4) (.c 4)) (.is (.a 4) 4) (.ne (.a 4) 4) (by kernel_rfl) (by kernel_rfl) h
  (fun h => memJ70 val h)
  (fun h => by_way (.eq (.a 4) (.c 8)) (.is (.a 4) 8) (.ne (.a 4) 8) (by kernel_rfl) (by kernel_rfl) h
  (fun h => memJ71 val h)
  (fun h => memJ72 val h)))))
  (fun h => memJ73 val h))
  (fun h => memJ74 val h))
  (fun h => memJ75 val h)))
  (fun h => memJ76 val h))
  (fun h => memJSub13 val h)

theorem memJSub9 (val : Nat → Int) (h : Holds val [.is (.a 6) 1, .ne (.a 6) 0, .le (.a 5) 2147483647, .ge (.a 5) (-2147483648)]) : MemJ val :=
  by_way (.eq (.a 0) (.c 0)) (.is (.a 0) 0) (.ne (.a 0) 0) (by kernel_rfl) (by kernel_rfl) h
  (fun h => memJSub10 val h)
  (fun h => memJSub12 val h)

theorem memJSub20 (val : Nat → Int) (h : Holds val [.is (.a 1) 0, .is (.a 0) 0, .is (.a 6) 2, .ne (.a 6) 1, .ne (.a 6) 0, .le (.a 5) 2147483647, .ge (.a 5) (-2147483648)]) : MemJ val :=
  by_way (.eq (.a 2) (.c 0)) (.is (.a 2) 0) (.ne (.a 2) 0) (by kernel_rfl) (by kernel_rfl) h
  (fun h => by_way (.eq (.a 3) (.c 0)) (.is (.a 3) 0) (.ne (.a 3) 0) (by kernel_rfl) (by kernel_rfl) h
  (fun h => by_way (.eq (.a 4) (.c 0)) (.is (.a 4) 0) (.ne (.a 4) 0) (by kernel_rfl) (by kernel_rfl) h
  (fun h => memJ96 val h)
  (fun h => memJ97 val h))
  (fun h => memJ98 val h))
  (fun h => by_way (.eq (.a 2) (.c 5)) (.is (.a 2) 5) (.ne (.a 2) 5) (by kernel_rfl) (by kernel_rfl) h
  (fun h => by_way (.le (.c 0) (.a 3)) (.ge (.a 3) 0) (.le (.a 3) (-1)) (by kernel_rfl) (by kernel_rfl) h
  (fun h => by_way (.lt (.a 3) (.c 16)) (.le (.a 3) 15) (.ge (.a 3) 16) (by kernel_rfl) (by kernel_rfl) h
  (fun h => by_way (.eq (.a 4) (.c 1)) (.is (.a 4) 1) (.ne (.a 4) 1) (by kernel_rfl) (by kernel_rfl) h
  (fun h => by_way (.eq (.a 3) (.c 4)) (.is (.a 3) 4) (.ne (.a 3) 4) (by kernel_rfl) (by kernel_rfl) h
  (fun h => memJ99 val h)
  (fun h => memJ100 val h))
  (fun h => by_way (.eq (.a 4) (.c 2)) (.is (.a 4) 2) (.ne (.a 4) 2) (by kernel_rfl) (by kernel_rfl) h
  (fun h => by_way (.eq (.a 3) (.c 4)) (.is (.a 3) 4) (.ne (.a 3) 4) (by kernel_rfl) (by kernel_rfl) h
  (fun h => memJ101 val h)
  (fun h => memJ102 val h))
  (fun h => by_way (.eq (.a 4) (.c 4)) (.is (.a 4) 4) (.ne (.a 4) 4) (by kernel_rfl) (by kernel_rfl) h
  (fun h => by_way (.eq (.a 3) (.c 4)) (.is (.a 3) 4) (.ne (.a 3) 4) (by kernel_rfl) (by kernel_rfl) h
  (fun h => memJ103 val h)
  (fun h => memJ104 val h))
  (fun h => by_way (.eq (.a 4) (.c 8)) (.is (.a 4) 8) (.ne (.a 4) 8) (by kernel_rfl) (by kernel_rfl) h
  (fun h => by_way (.eq (.a 3) (.c 4)) (.is (.a 3) 4) (.ne (.a 3) 4) (by kernel_rfl) (by kernel_rfl) h
  (fun h => memJ105 val h)
  (fun h => memJ106 val h))
  (fun h => memJ107 val h)))))
  (fun h => memJ108 val h))
  (fun h => memJ109 val h))
  (fun h => memJ110 val h))

theorem memJSub19 (val : Nat → Int) (h : Holds val [.is (.a 0) 0, .is (.a 6) 2, .ne (.a 6) 1, .ne (.a 6) 0, .le (.a 5) 2147483647, .ge (.a 5) (-2147483648)]) : MemJ val :=
  by_way (.eq (.a 1) (.c 0)) (.is (.a 1) 0) (.ne (.a 1) 0) (by kernel_rfl) (by kernel_rfl) h
  (fun h => memJSub20 val h)
  (fun h => memJ111 val h)

theorem memJSub26 (val : Nat → Int) (h : Holds val [.ne (.a 2) 0, .le (.a 1) 15, .ge (.a 1) 0, .is (.a 0) 5, .ne (.a 0) 8, .ne (.a 0) 0, .is (.a 6) 2, .ne (.a 6) 1, .ne (.a 6) 0, .le (.a 5) 2147483647, .ge (.a 5) (-2147483648)]) : MemJ val :=
  by_way (.eq (.a 2) (.c 5)) (.is (.a 2) 5) (.ne (.a 2) 5) (by kernel_rfl) (by kernel_rfl) h
  (fun h => by_way (.le (.c 0) (.a 3)) (.ge (.a 3) 0) (.le (.a 3) (-1)) (by kernel_rfl) (by kernel_rfl) h
  (fun h => by_way (.lt (.a 3) (.c 16)) (.le (.a 3) 15) (.ge (.a 3) 16) (by kernel_rfl) (by kernel_rfl) h
  (fun h => by_way (.eq (.a 4) (.c 1)) (.is (.a 4) 1) (.ne (.a 4) 1) (by kernel_rfl) (by kernel_rfl) h
  (fun h => by_way (.eq (.a 3) (.c 4)) (.is (.a 3) 4) (.ne (.a 3) 4) (by kernel_rfl) (by kernel_rfl) h
  (fun h => by_way (.eq (.a 1) (.c 4)) (.is (.a 1) 4) (.ne (.a 1) 4) (by kernel_rfl) (by kernel_rfl) h
  (fun h => memJ127 val h)
  (fun h => memJ128 val h))
  (fun h => memJ129 val h))
  (fun h => by_way (.eq (.a 4) (.c 2)) (.is (.a 4) 2) (.ne (.a 4) 2) (by kernel_rfl) (by kernel_rfl) h
  (fun h => by_way (.eq (.a 3) (.c 4)) (.is (.a 3) 4) (.ne (.a 3) 4) (by kernel_rfl) (by kernel_rfl) h
  (fun h => memJ130 val h)
  (fun h => memJ131 val h))
  (fun h => by_way (.eq (.a 4) (.c 4)) (.is (.a 4) 4) (.ne (.a 4) 4) (by kernel_rfl) (by kernel_rfl) h
  (fun h => by_way (.eq (.a 3) (.c 4)) (.is (.a 3) 4) (.ne (.a 3) 4) (by kernel_rfl) (by kernel_rfl) h
  (fun h => memJ132 val h)
  (fun h => memJ133 val h))
  (fun h => by_way (.eq (.a 4) (.c 8)) (.is (.a 4) 8) (.ne (.a 4) 8) (by kernel_rfl) (by kernel_rfl) h
  (fun h => by_way (.eq (.a 3) (.c 4)) (.is (.a 3) 4) (.ne (.a 3) 4) (by kernel_rfl) (by kernel_rfl) h
  (fun h => memJ134 val h)
  (fun h => memJ135 val h))
  (fun h => memJ136 val h)))))
  (fun h => memJ137 val h))
  (fun h => memJ138 val h))
  (fun h => memJ139 val h)

theorem memJSub25 (val : Nat → Int) (h : Holds val [.le (.a 1) 15, .ge (.a 1) 0, .is (.a 0) 5, .ne (.a 0) 8, .ne (.a 0) 0, .is (.a 6) 2, .ne (.a 6) 1, .ne (.a 6) 0, .le (.a 5) 2147483647, .ge (.a 5) (-2147483648)]) : MemJ val :=
  by_way (.eq (.a 2) (.c 0)) (.is (.a 2) 0) (.ne (.a 2) 0) (by kernel_rfl) (by kernel_rfl) h
  (fun h => by_way (.eq (.a 3) (.c 0)) (.is (.a 3) 0) (.ne (.a 3) 0) (by kernel_rfl) (by kernel_rfl) h
  (fun h => by_way (.eq (.a 4) (.c 0)) (.is (.a 4) 0) (.ne (.a 4) 0) (by kernel_rfl) (by kernel_rfl) h
  (fun h => memJ124 val h)
  (fun h => memJ125 val h))
  (fun h => memJ126 val h))
  (fun h => memJSub26 val h)

theorem memJSub24 (val : Nat → Int) (h : Holds val [.ge (.a 1) 0, .is (.a 0) 5, .ne (.a 0) 8, .ne (.a 0) 0, .is (.a 6) 2, .ne (.a 6) 1, .ne (.a 6) 0, .le (.a 5) 2147483647, .ge (.a 5) (-2147483648)]) : MemJ val :=
  by_way (.lt (.a 1) (.c 16)) (.le (.a 1) 15) (.ge (.a 1) 16) (by kernel_rfl) (by kernel_rfl) h
  (fun h => memJSub25 val h)
  (fun h => memJ140 val h)

theorem memJSub23 (val : Nat → Int) (h : Holds val [.is (.a 0) 5, .ne (.a 0) 8, .ne (.a 0) 0, .is (.a 6) 2, .ne (.a 6) 1, .ne (.a 6) 0, .le (.a 5) 2147483647, .ge (.a 5) (-2147483648)]) : MemJ val :=
  by_way (.le (.c 0) (.a 1)) (.ge (.a 1) 0) (.le (.a 1) (-1)) (by kernel_rfl) (by kernel_rfl) h
  (fun h => memJSub24 val h)
  (fun h => memJ141 val h)

theorem memJSub22 (val : Nat → Int) (h : Holds val [.ne (.a 0) 8, .ne (.a 0) 0, .is (.a 6) 2, .ne (.a 6) 1, .ne (.a 6) 0, .le (.a 5) 2147483647, .ge (.a 5) (-2147483648)]) : MemJ val :=
  by_way (.eq (.a 0) (.c 5)) (.is (.a 0) 5) (.ne (.a 0) 5) (by kernel_rfl) (by kernel_rfl) h
  (fun h => memJSub23 val h)
  (fun h => memJ142 val h)

theorem memJSub21 (val : Nat → Int) (h : Holds val [.ne (.a 0) 0, .is (.a 6) 2, .ne (.a 6) 1, .ne (.a 6) 0, .le (.a 5) 2147483647, .ge (.a 5) (-2147483648)]) : MemJ val :=
  by_way (.eq (.a 0) (.c 8)) (.is (.a 0) 8) (.ne (.a 0) 8) (by kernel_rfl) (by kernel_rfl) h
  (fun h => by_way (.eq (.a 1) (.c 0)) (.is (.a 1) 0) (.ne (.a 1) 0) (by kernel_rfl) (by kernel_rfl) h
  (fun h => by_way (.eq (.a 2) (.c 0)) (.is (.a 2) 0) (.ne (.a 2) 0) (by kernel_rfl) (by kernel_rfl) h
  (fun h => by_way (.eq (.a 3) (.c 0)) (.is (.a 3) 0) (.ne (.a 3) 0) (by kernel_rfl) (by kernel_rfl) h
  (fun h => by_way (.eq (.a 4) (.c 0)) (.is (.a 4) 0) (.ne (.a 4) 0) (by kernel_rfl) (by kernel_rfl) h
  (fun h => memJ112 val h)
  (fun h => memJ113 val h))
  (fun h => memJ114 val h))
  (fun h => by_way (.eq (.a 2) (.c 5)) (.is (.a 2) 5) (.ne (.a 2) 5) (by kernel_rfl) (by kernel_rfl) h
  (fun h => by_way (.le (.c 0) (.a 3)) (.ge (.a 3) 0) (.le (.a 3) (-1)) (by kernel_rfl) (by kernel_rfl) h
  (fun h => by_way (.lt (.a 3) (.c 16)) (.le (.a 3) 15) (.ge (.a 3) 16) (by kernel_rfl) (by kernel_rfl) h
  (fun h => by_way (.eq (.a 4) (.c 1)) (.is (.a 4) 1) (.ne (.a 4) 1) (by kernel_rfl) (by kernel_rfl) h
  (fun h => memJ115 val h)
  (fun h => by_way (.eq (.a 4) (.c 2)) (.is (.a 4) 2) (.ne (.a 4) 2) (by kernel_rfl) (by kernel_rfl) h
  (fun h => memJ116 val h)
  (fun h => by_way (.eq (.a 4) (.c 4)) (.is (.a 4) 4) (.ne (.a 4) 4) (by kernel_rfl) (by kernel_rfl) h
  (fun h => memJ117 val h)
  (fun h => by_way (.eq (.a 4) (.c 8)) (.is (.a 4) 8) (.ne (.a 4) 8) (by kernel_rfl) (by kernel_rfl) h
  (fun h => memJ118 val h)
  (fun h => memJ119 val h)))))
  (fun h => memJ120 val h))
  (fun h => memJ121 val h))
  (fun h => memJ122 val h)))
  (fun h => memJ123 val h))
  (fun h => memJSub22 val h)

theorem memJSub18 (val : Nat → Int) (h : Holds val [.is (.a 6) 2, .ne (.a 6) 1, .ne (.a 6) 0, .le (.a 5) 2147483647, .ge (.a 5) (-2147483648)]) : MemJ val :=
  by_way (.eq (.a 0) (.c 0)) (.is (.a 0) 0) (.ne (.a 0) 0) (by kernel_rfl) (by kernel_rfl) h
  (fun h => memJSub19 val h)
  (fun h => memJSub21 val h)

theorem memJSub29 (val : Nat → Int) (h : Holds val [.is (.a 1) 0, .is (.a 0) 0, .is (.a 6) 4, .ne (.a 6) 2, .ne (.a 6) 1, .ne (.a 6) 0, .le (.a 5) 2147483647, .ge (.a 5) (-2147483648)]) : MemJ val :=
  by_way (.eq (.a 2) (.c 0)) (.is (.a 2) 0) (.ne (.a 2) 0) (by kernel_rfl) (by kernel_rfl) h
  (fun h => by_way (.eq (.a 3) (.c 0)) (.is (.a 3) 0) (.ne (.a 3) 0) (by kernel_rfl) (by kernel_rfl) h
  (fun h => by_way (.eq (.a 4) (.c 0)) (.is (.a 4) 0) (.ne (.a 4) 0) (by kernel_rfl) (by kernel_rfl) h
  (fun h => memJ143 val h)
  (fun h => memJ144 val h))
  (fun h => memJ145 val h))
  (fun h => by_way (.eq (.a 2) (.c 5)) (.is (.a 2) 5) (.ne (.a 2) 5) (by kernel_rfl) (by kernel_rfl) h
  (fun h => by_way (.le (.c 0) (.a 3)) (.ge (.a 3) 0) (.le (.a 3) (-1)) (by kernel_rfl) (by kernel_rfl) h
  (fun h => by_way (.lt (.a 3) (.c 16)) (.le (.a 3) 15) (.ge (.a 3) 16) (by kernel_rfl) (by kernel_rfl) h
  (fun h => by_way (.eq (.a 4) (.c 1)) (.is (.a 4) 1) (.ne (.a 4) 1) (by kernel_rfl) (by kernel_rfl) h
  (fun h => by_way (.eq (.a 3) (.c 4)) (.is (.a 3) 4) (.ne (.a 3) 4) (by kernel_rfl) (by kernel_rfl) h
  (fun h => memJ146 val h)
  (fun h => memJ147 val h))
  (fun h => by_way (.eq (.a 4) (.c 2)) (.is (.a 4) 2) (.ne (.a 4) 2) (by kernel_rfl) (by kernel_rfl) h
  (fun h => by_way (.eq (.a 3) (.c 4)) (.is (.a 3) 4) (.ne (.a 3) 4) (by kernel_rfl) (by kernel_rfl) h
  (fun h => memJ148 val h)
  (fun h => memJ149 val h))
  (fun h => by_way (.eq (.a 4) (.c 4)) (.is (.a 4) 4) (.ne (.a 4) 4) (by kernel_rfl) (by kernel_rfl) h
  (fun h => by_way (.eq (.a 3) (.c 4)) (.is (.a 3) 4) (.ne (.a 3) 4) (by kernel_rfl) (by kernel_rfl) h
  (fun h => memJ150 val h)
  (fun h => memJ151 val h))
  (fun h => by_way (.eq (.a 4) (.c 8)) (.is (.a 4) 8) (.ne (.a 4) 8) (by kernel_rfl) (by kernel_rfl) h
  (fun h => by_way (.eq (.a 3) (.c 4)) (.is (.a 3) 4) (.ne (.a 3) 4) (by kernel_rfl) (by kernel_rfl) h
  (fun h => memJ152 val h)
  (fun h => memJ153 val h))
  (fun h => memJ154 val h)))))
  (fun h => memJ155 val h))
  (fun h => memJ156 val h))
  (fun h => memJ157 val h))

theorem memJSub28 (val : Nat → Int) (h : Holds val [.is (.a 0) 0, .is (.a 6) 4, .ne (.a 6) 2, .ne (.a 6) 1, .ne (.a 6) 0, .le (.a 5) 2147483647, .ge (.a 5) (-2147483648)]) : MemJ val :=
  by_way (.eq (.a 1) (.c 0)) (.is (.a 1) 0) (.ne (.a 1) 0) (by kernel_rfl) (by kernel_rfl) h
  (fun h => memJSub29 val h)
  (fun h => memJ158 val h)

theorem memJSub35 (val : Nat → Int) (h : Holds val [.ne (.a 2) 0, .le (.a 1) 15, .ge (.a 1) 0, .is (.a 0) 5, .ne (.a 0) 8, .ne (.a 0) 0, .is (.a 6) 4, .ne (.a 6) 2, .ne (.a 6) 1, .ne (.a 6) 0, .le (.a 5) 2147483647, .ge (.a 5) (-2147483648)]) : MemJ val :=
  by_way (.eq (.a 2) (.c 5)) (.is (.a 2) 5) (.ne (.a 2) 5) (by kernel_rfl) (by kernel_rfl) h
  (fun h => by_way (.le (.c 0) (.a 3)) (.ge (.a 3) 0) (.le (.a 3) (-1)) (by kernel_rfl) (by kernel_rfl) h
  (fun h => by_way (.lt (.a 3) (.c 16)) (.le (.a 3) 15) (.ge (.a 3) 16) (by kernel_rfl) (by kernel_rfl) h
  (fun h => by_way (.eq (.a 4) (.c 1)) (.is (.a 4) 1) (.ne (.a 4) 1) (by kernel_rfl) (by kernel_rfl) h
  (fun h => by_way (.eq (.a 3) (.c 4)) (.is (.a 3) 4) (.ne (.a 3) 4) (by kernel_rfl) (by kernel_rfl) h
  (fun h => by_way (.eq (.a 1) (.c 4)) (.is (.a 1) 4) (.ne (.a 1) 4) (by kernel_rfl) (by kernel_rfl) h
  (fun h => memJ174 val h)
  (fun h => memJ175 val h))
  (fun h => memJ176 val h))
  (fun h => by_way (.eq (.a 4) (.c 2)) (.is (.a 4) 2) (.ne (.a 4) 2) (by kernel_rfl) (by kernel_rfl) h
  (fun h => by_way (.eq (.a 3) (.c 4)) (.is (.a 3) 4) (.ne (.a 3) 4) (by kernel_rfl) (by kernel_rfl) h
  (fun h => memJ177 val h)
  (fun h => memJ178 val h))
  (fun h => by_way (.eq (.a 4) (.c 4)) (.is (.a 4) 4) (.ne (.a 4) 4) (by kernel_rfl) (by kernel_rfl) h
  (fun h => by_way (.eq (.a 3) (.c 4)) (.is (.a 3) 4) (.ne (.a 3) 4) (by kernel_rfl) (by kernel_rfl) h
  (fun h => memJ179 val h)
  (fun h => memJ180 val h))
  (fun h => by_way (.eq (.a 4) (.c 8)) (.is (.a 4) 8) (.ne (.a 4) 8) (by kernel_rfl) (by kernel_rfl) h
  (fun h => by_way (.eq (.a 3) (.c 4)) (.is (.a 3) 4) (.ne (.a 3) 4) (by kernel_rfl) (by kernel_rfl) h
  (fun h => memJ181 val h)
  (fun h => memJ182 val h))
  (fun h => memJ183 val h)))))
  (fun h => memJ184 val h))
  (fun h => memJ185 val h))
  (fun h => memJ186 val h)

theorem memJSub34 (val : Nat → Int) (h : Holds val [.le (.a 1) 15, .ge (.a 1) 0, .is (.a 0) 5, .ne (.a 0) 8, .ne (.a 0) 0, .is (.a 6) 4, .ne (.a 6) 2, .ne (.a 6) 1, .ne (.a 6) 0, .le (.a 5) 2147483647, .ge (.a 5) (-2147483648)]) : MemJ val :=
  by_way (.eq (.a 2) (.c 0)) (.is (.a 2) 0) (.ne (.a 2) 0) (by kernel_rfl) (by kernel_rfl) h
  (fun h => by_way (.eq (.a 3) (.c 0)) (.is (.a 3) 0) (.ne (.a 3) 0) (by kernel_rfl) (by kernel_rfl) h
  (fun h => by_way (.eq (.a 4) (.c 0)) (.is (.a 4) 0) (.ne (.a 4) 0) (by kernel_rfl) (by kernel_rfl) h
  (fun h => memJ171 val h)
  (fun h => memJ172 val h))
  (fun h => memJ173 val h))
  (fun h => memJSub35 val h)

theorem memJSub33 (val : Nat → Int) (h : Holds val [.ge (.a 1) 0, .is (.a 0) 5, .ne (.a 0) 8, .ne (.a 0) 0, .is (.a 6) 4, .ne (.a 6) 2, .ne (.a 6) 1, .ne (.a 6) 0, .le (.a 5) 2147483647, .ge (.a 5) (-2147483648)]) : MemJ val :=
  by_way (.lt (.a 1) (.c 16)) (.le (.a 1) 15) (.ge (.a 1) 16) (by kernel_rfl) (by kernel_rfl) h
  (fun h => memJSub34 val h)
  (fun h => memJ187 val h)

theorem memJSub32 (val : Nat → Int) (h : Holds val [.is (.a 0) 5, .ne (.a 0) 8, .ne (.a 0) 0, .is (.a 6) 4, .ne (.a 6) 2, .ne (.a 6) 1, .ne (.a 6) 0, .le (.a 5) 2147483647, .ge (.a 5) (-2147483648)]) : MemJ val :=
  by_way (.le (.c 0) (.a 1)) (.ge (.a 1) 0) (.le (.a 1) (-1)) (by kernel_rfl) (by kernel_rfl) h
  (fun h => memJSub33 val h)
  (fun h => memJ188 val h)

theorem memJSub31 (val : Nat → Int) (h : Holds val [.ne (.a 0) 8, .ne (.a 0) 0, .is (.a 6) 4, .ne (.a 6) 2, .ne (.a 6) 1, .ne (.a 6) 0, .le (.a 5) 2147483647, .ge (.a 5) (-2147483648)]) : MemJ val :=
  by_way (.eq (.a 0) (.c 5)) (.is (.a 0) 5) (.ne (.a 0) 5) (by kernel_rfl) (by kernel_rfl) h
  (fun h => memJSub32 val h)
  (fun h => memJ189 val h)

theorem memJSub30 (val : Nat → Int) (h : Holds val [.ne (.a 0) 0, .is (.a 6) 4, .ne (.a 6) 2, .ne (.a 6) 1, .ne (.a 6) 0, .le (.a 5) 2147483647, .ge (.a 5) (-2147483648)]) : MemJ val :=
  by_way (.eq (.a 0) (.c 8)) (.is (.a 0) 8) (.ne (.a 0) 8) (by kernel_rfl) (by kernel_rfl) h
  (fun h => by_way (.eq (.a 1) (.c 0)) (.is (.a 1) 0) (.ne (.a 1) 0) (by kernel_rfl) (by kernel_rfl) h
  (fun h => by_way (.eq (.a 2) (.c 0)) (.is (.a 2) 0) (.ne (.a 2) 0) (by kernel_rfl) (by kernel_rfl) h
  (fun h => by_way (.eq (.a 3) (.c 0)) (.is (.a 3) 0) (.ne (.a 3) 0) (by kernel_rfl) (by kernel_rfl) h
  (fun h => by_way (.eq (.a 4) (.c 0)) (.is (.a 4) 0) (.ne (.a 4) 0) (by kernel_rfl) (by kernel_rfl) h
  (fun h => memJ159 val h)
  (fun h => memJ160 val h))
  (fun h => memJ161 val h))
  (fun h => by_way (.eq (.a 2) (.c 5)) (.is (.a 2) 5) (.ne (.a 2) 5) (by kernel_rfl) (by kernel_rfl) h
  (fun h => by_way (.le (.c 0) (.a 3)) (.ge (.a 3) 0) (.le (.a 3) (-1)) (by kernel_rfl) (by kernel_rfl) h
  (fun h => by_way (.lt (.a 3) (.c 16)) (.le (.a 3) 15) (.ge (.a 3) 16) (by kernel_rfl) (by kernel_rfl) h
  (fun h => by_way (.eq (.a 4) (.c 1)) (.is (.a 4) 1) (.ne (.a 4) 1) (by kernel_rfl) (by kernel_rfl) h
  (fun h => memJ162 val h)
  (fun h => by_way (.eq (.a 4) (.c 2)) (.is (.a 4) 2) (.ne (.a 4) 2) (by kernel_rfl) (by kernel_rfl) h
  (fun h => memJ163 val h)
  (fun h => by_way (.eq (.a 4) (.c 4)) (.is (.a 4) 4) (.ne (.a 4) 4) (by kernel_rfl) (by kernel_rfl) h
  (fun h => memJ164 val h)
  (fun h => by_way (.eq (.a 4) (.c 8)) (.is (.a 4) 8) (.ne (.a 4) 8) (by kernel_rfl) (by kernel_rfl) h
  (fun h => memJ165 val h)
  (fun h => memJ166 val h)))))
  (fun h => memJ167 val h))
  (fun h => memJ168 val h))
  (fun h => memJ169 val h)))
  (fun h => memJ170 val h))
  (fun h => memJSub31 val h)

theorem memJSub27 (val : Nat → Int) (h : Holds val [.is (.a 6) 4, .ne (.a 6) 2, .ne (.a 6) 1, .ne (.a 6) 0, .le (.a 5) 2147483647, .ge (.a 5) (-2147483648)]) : MemJ val :=
  by_way (.eq (.a 0) (.c 0)) (.is (.a 0) 0) (.ne (.a 0) 0) (by kernel_rfl) (by kernel_rfl) h
  (fun h => memJSub28 val h)
  (fun h => memJSub30 val h)

theorem memJSub38 (val : Nat → Int) (h : Holds val [.is (.a 1) 0, .is (.a 0) 0, .is (.a 6) 8, .ne (.a 6) 4, .ne (.a 6) 2, .ne (.a 6) 1, .ne (.a 6) 0, .le (.a 5) 2147483647, .ge (.a 5) (-2147483648)]) : MemJ val :=
  by_way (.eq (.a 2) (.c 0)) (.is (.a 2) 0) (.ne (.a 2) 0) (by kernel_rfl) (by kernel_rfl) h
  (fun h => by_way (.eq (.a 3) (.c 0)) (.is (.a 3) 0) (.ne (.a 3) 0) (by kernel_rfl) (by kernel_rfl) h
  (fun h => by_way (.eq (.a 4) (.c 0)) (.is (.a 4) 0) (.ne (.a 4) 0) (by kernel_rfl) (by kernel_rfl) h
  (fun h => memJ190 val h)
  (fun h => memJ191 val h))
  (fun h => memJ192 val h))
  (fun h => by_way (.eq (.a 2) (.c 5)) (.is (.a 2) 5) (.ne (.a 2) 5) (by kernel_rfl) (by kernel_rfl) h
  (fun h => by_way (.le (.c 0) (.a 3)) (.ge (.a 3) 0) (.le (.a 3) (-1)) (by kernel_rfl) (by kernel_rfl) h
  (fun h => by_way (.lt (.a 3) (.c 16)) (.le (.a 3) 15) (.ge (.a 3) 16) (by kernel_rfl) (by kernel_rfl) h
  (fun h => by_way (.eq (.a 4) (.c 1)) (.is (.a 4) 1) (.ne (.a 4) 1) (by kernel_rfl) (by kernel_rfl) h
  (fun h => by_way (.eq (.a 3) (.c 4)) (.is (.a 3) 4) (.ne (.a 3) 4) (by kernel_rfl) (by kernel_rfl) h
  (fun h => memJ193 val h)
  (fun h => memJ194 val h))
  (fun h => by_way (.eq (.a 4) (.c 2)) (.is (.a 4) 2) (.ne (.a 4) 2) (by kernel_rfl) (by kernel_rfl) h
  (fun h => by_way (.eq (.a 3) (.c 4)) (.is (.a 3) 4) (.ne (.a 3) 4) (by kernel_rfl) (by kernel_rfl) h
  (fun h => memJ195 val h)
  (fun h => memJ196 val h))
  (fun h => by_way (.eq (.a 4) (.c 4)) (.is (.a 4) 4) (.ne (.a 4) 4) (by kernel_rfl) (by kernel_rfl) h
  (fun h => by_way (.eq (.a 3) (.c 4)) (.is (.a 3) 4) (.ne (.a 3) 4) (by kernel_rfl) (by kernel_rfl) h
  (fun h => memJ197 val h)
  (fun h => memJ198 val h))
  (fun h => by_way (.eq (.a 4) (.c 8)) (.is (.a 4) 8) (.ne (.a 4) 8) (by kernel_rfl) (by kernel_rfl) h
  (fun h => by_way (.eq (.a 3) (.c 4)) (.is (.a 3) 4) (.ne (.a 3) 4) (by kernel_rfl) (by kernel_rfl) h
  (fun h => memJ199 val h)
  (fun h => memJ200 val h))
  (fun h => memJ201 val h)))))
  (fun h => memJ202 val h))
  (fun h => memJ203 val h))
  (fun h => memJ204 val h))

theorem memJSub37 (val : Nat → Int) (h : Holds val [.is (.a 0) 0, .is (.a 6) 8, .ne (.a 6) 4, .ne (.a 6) 2, .ne (.a 6) 1, .ne (.a 6) 0, .le (.a 5) 2147483647, .ge (.a 5) (-2147483648)]) : MemJ val :=
  by_way (.eq (.a 1) (.c 0)) (.is (.a 1) 0) (.ne (.a 1) 0) (by kernel_rfl) (by kernel_rfl) h
  (fun h => memJSub38 val h)
  (fun h => memJ205 val h)

theorem memJSub44 (val : Nat → Int) (h : Holds val [.ne (.a 2) 0, .le (.a 1) 15, .ge (.a 1) 0, .is (.a 0) 5, .ne (.a 0) 8, .ne (.a 0) 0, .is (.a 6) 8, .ne (.a 6) 4, .ne (.a 6) 2, .ne (.a 6) 1, .ne (.a 6) 0, .le (.a 5) 2147483647, .ge (.a 5) (-2147483648)]) : MemJ val :=
  by_way (.eq (.a 2) (.c 5)) (.is (.a 2) 5) (.ne (.a 2) 5) (by kernel_rfl) (by kernel_rfl) h
  (fun h => by_way (.le (.c 0) (.a 3)) (.ge (.a 3) 0) (.le (.a 3) (-1)) (by kernel_rfl) (by kernel_rfl) h
  (fun h => by_way (.lt (.a 3) (.c 16)) (.le (.a 3) 15) (.ge (.a 3) 16) (by kernel_rfl) (by kernel_rfl) h
  (fun h => by_way (.eq (.a 4) (.c 1)) (.is (.a 4) 1) (.ne (.a 4) 1) (by kernel_rfl) (by kernel_rfl) h
  (fun h => by_way (.eq (.a 3) (.c 4)) (.is (.a 3) 4) (.ne (.a 3) 4) (by kernel_rfl) (by kernel_rfl) h
  (fun h => by_way (.eq (.a 1) (.c 4)) (.is (.a 1) 4) (.ne (.a 1) 4) (by kernel_rfl) (by kernel_rfl) h
  (fun h => memJ221 val h)
  (fun h => memJ222 val h))
  (fun h => memJ223 val h))
  (fun h => by_way (.eq (.a 4) (.c 2)) (.is (.a 4) 2) (.ne (.a 4) 2) (by kernel_rfl) (by kernel_rfl) h
  (fun h => by_way (.eq (.a 3) (.c 4)) (.is (.a 3) 4) (.ne (.a 3) 4) (by kernel_rfl) (by kernel_rfl) h
  (fun h => memJ224 val h)
  (fun h => memJ225 val h))
  (fun h => by_way (.eq (.a 4) (.c 4)) (.is (.a 4) 4) (.ne (.a 4) 4) (by kernel_rfl) (by kernel_rfl) h
  (fun h => by_way (.eq (.a 3) (.c 4)) (.is (.a 3) 4) (.ne (.a 3) 4) (by kernel_rfl) (by kernel_rfl) h
  (fun h => memJ226 val h)
  (fun h => memJ227 val h))
  (fun h => by_way (.eq (.a 4) (.c 8)) (.is (.a 4) 8) (.ne (.a 4) 8) (by kernel_rfl) (by kernel_rfl) h
  (fun h => by_way (.eq (.a 3) (.c 4)) (.is (.a 3) 4) (.ne (.a 3) 4) (by kernel_rfl) (by kernel_rfl) h
  (fun h => memJ228 val h)
  (fun h => memJ229 val h))
  (fun h => memJ230 val h)))))
  (fun h => memJ231 val h))
  (fun h => memJ232 val h))
  (fun h => memJ233 val h)

theorem memJSub43 (val : Nat → Int) (h : Holds val [.le (.a 1) 15, .ge (.a 1) 0, .is (.a 0) 5, .ne (.a 0) 8, .ne (.a 0) 0, .is (.a 6) 8, .ne (.a 6) 4, .ne (.a 6) 2, .ne (.a 6) 1, .ne (.a 6) 0, .le (.a 5) 2147483647, .ge (.a 5) (-2147483648)]) : MemJ val :=
  by_way (.eq (.a 2) (.c 0)) (.is (.a 2) 0) (.ne (.a 2) 0) (by kernel_rfl) (by kernel_rfl) h
  (fun h => by_way (.eq (.a 3) (.c 0)) (.is (.a 3) 0) (.ne (.a 3) 0) (by kernel_rfl) (by kernel_rfl) h
  (fun h => by_way (.eq (.a 4) (.c 0)) (.is (.a 4) 0) (.ne (.a 4) 0) (by kernel_rfl) (by kernel_rfl) h
  (fun h => memJ218 val h)
  (fun h => memJ219 val h))
  (fun h => memJ220 val h))
  (fun h => memJSub44 val h)

theorem memJSub42 (val : Nat → Int) (h : Holds val [.ge (.a 1) 0, .is (.a 0) 5, .ne (.a 0) 8, .ne (.a 0) 0, .is (.a 6) 8, .ne (.a 6) 4, .ne (.a 6) 2, .ne (.a 6) 1, .ne (.a 6) 0, .le (.a 5) 2147483647, .ge (.a 5) (-2147483648)]) : MemJ val :=
  by_way (.lt (.a 1) (.c 16)) (.le (.a 1) 15) (.ge (.a 1) 16) (by kernel_rfl) (by kernel_rfl) h
  (fun h => memJSub43 val h)
  (fun h => memJ234 val h)

theorem memJSub41 (val : Nat → Int) (h : Holds val [.is (.a 0) 5, .ne (.a 0) 8, .ne (.a 0) 0, .is (.a 6) 8, .ne (.a 6) 4, .ne (.a 6) 2, .ne (.a 6) 1, .ne (.a 6) 0, .le (.a 5) 2147483647, .ge (.a 5) (-2147483648)]) : MemJ val :=
  by_way (.le (.c 0) (.a 1)) (.ge (.a 1) 0) (.le (.a 1) (-1)) (by kernel_rfl) (by kernel_rfl) h
  (fun h => memJSub42 val h)
  (fun h => memJ235 val h)

theorem memJSub40 (val : Nat → Int) (h : Holds val [.ne (.a 0) 8, .ne (.a 0) 0, .is (.a 6) 8, .ne (.a 6) 4, .ne (.a 6) 2, .ne (.a 6) 1, .ne (.a 6) 0, .le (.a 5) 2147483647, .ge (.a 5) (-2147483648)]) : MemJ val :=
  by_way (.eq (.a 0) (.c 5)) (.is (.a 0) 5) (.ne (.a 0) 5) (by kernel_rfl) (by kernel_rfl) h
  (fun h => memJSub41 val h)
  (fun h => memJ236 val h)

theorem memJSub39 (val : Nat → Int) (h : Holds val [.ne (.a 0) 0, .is (.a 6) 8, .ne (.a 6) 4, .ne (.a 6) 2, .ne (.a 6) 1, .ne (.a 6) 0, .le (.a 5) 2147483647, .ge (.a 5) (-2147483648)]) : MemJ val :=
  by_way (.eq (.a 0) (.c 8)) (.is (.a 0) 8) (.ne (.a 0) 8) (by kernel_rfl) (by kernel_rfl) h
  (fun h => by_way (.eq (.a 1) (.c 0)) (.is (.a 1) 0) (.ne (.a 1) 0) (by kernel_rfl) (by kernel_rfl) h
  (fun h => by_way (.eq (.a 2) (.c 0)) (.is (.a 2) 0) (.ne (.a 2) 0) (by kernel_rfl) (by kernel_rfl) h
  (fun h => by_way (.eq (.a 3) (.c 0)) (.is (.a 3) 0) (.ne (.a 3) 0) (by kernel_rfl) (by kernel_rfl) h
  (fun h => by_way (.eq (.a 4) (.c 0)) (.is (.a 4) 0) (.ne (.a 4) 0) (by kernel_rfl) (by kernel_rfl) h
  (fun h => memJ206 val h)
  (fun h => memJ207 val h))
  (fun h => memJ208 val h))
  (fun h => by_way (.eq (.a 2) (.c 5)) (.is (.a 2) 5) (.ne (.a 2) 5) (by kernel_rfl) (by kernel_rfl) h
  (fun h => by_way (.le (.c 0) (.a 3)) (.ge (.a 3) 0) (.le (.a 3) (-1)) (by kernel_rfl) (by kernel_rfl) h
  (fun h => by_way (.lt (.a 3) (.c 16)) (.le (.a 3) 15) (.ge (.a 3) 16) (by kernel_rfl) (by kernel_rfl) h
  (fun h => by_way (.eq (.a 4) (.c 1)) (.is (.a 4) 1) (.ne (.a 4) 1) (by kernel_rfl) (by kernel_rfl) h
  (fun h => memJ209 val h)
  (fun h => by_way (.eq (.a 4) (.c 2)) (.is (.a 4) 2) (.ne (.a 4) 2) (by kernel_rfl) (by kernel_rfl) h
  (fun h => memJ210 val h)
  (fun h => by_way (.eq (.a 4) (.c 4)) (.is (.a 4) 4) (.ne (.a 4) 4) (by kernel_rfl) (by kernel_rfl) h
  (fun h => memJ211 val h)
  (fun h => by_way (.eq (.a 4) (.c 8)) (.is (.a 4) 8) (.ne (.a 4) 8) (by kernel_rfl) (by kernel_rfl) h
  (fun h => memJ212 val h)
  (fun h => memJ213 val h)))))
  (fun h => memJ214 val h))
  (fun h => memJ215 val h))
  (fun h => memJ216 val h)))
  (fun h => memJ217 val h))
  (fun h => memJSub40 val h)

theorem memJSub36 (val : Nat → Int) (h : Holds val [.is (.a 6) 8, .ne (.a 6) 4, .ne (.a 6) 2, .ne (.a 6) 1, .ne (.a 6) 0, .le (.a 5) 2147483647, .ge (.a 5) (-2147483648)]) : MemJ val :=
  by_way (.eq (.a 0) (.c 0)) (.is (.a 0) 0) (.ne (.a 0) 0) (by kernel_rfl) (by kernel_rfl) h
  (fun h => memJSub37 val h)
  (fun h => memJSub39 val h)

theorem memJSub47 (val : Nat → Int) (h : Holds val [.is (.a 1) 0, .is (.a 0) 0, .is (.a 6) 16, .ne (.a 6) 8, .ne (.a 6) 4, .ne (.a 6) 2, .ne (.a 6) 1, .ne (.a 6) 0, .le (.a 5) 2147483647, .ge (.a 5) (-2147483648)]) : MemJ val :=
  by_way (.eq (.a 2) (.c 0)) (.is (.a 2) 0) (.ne (.a 2) 0) (by kernel_rfl) (by kernel_rfl) h
  (fun h => by_way (.eq (.a 3) (.c 0)) (.is (.a 3) 0) (.ne (.a 3) 0) (by kernel_rfl) (by kernel_rfl) h
  (fun h => by_way (.eq (.a 4) (.c 0)) (.is (.a 4) 0) (.ne (.a 4) 0) (by kernel_rfl) (by kernel_rfl) h
  (fun h => memJ237 val h)
  (fun h => memJ238 val h))
  (fun h => memJ239 val h))
  (fun h => by_way (.eq (.a 2) (.c 5)) (.is (.a 2) 5) (.ne (.a 2) 5) (by kernel_rfl) (by kernel_rfl) h
  (fun h => by_way (.le (.c 0) (.a 3)) (.ge (.a 3) 0) (.le (.a 3) (-1)) (by kernel_rfl) (by kernel_rfl) h
  (fun h => by_way (.lt (.a 3) (.c 16)) (.le (.a 3) 15) (.ge (.a 3) 16) (by kernel_rfl) (by kernel_rfl) h
  (fun h => by_way (.eq (.a 4) (.c 1)) (.is (.a 4) 1) (.ne (.a 4) 1) (by kernel_rfl) (by kernel_rfl) h
  (fun h => by_way (.eq (.a 3) (.c 4)) (.is (.a 3) 4) (.ne (.a 3) 4) (by kernel_rfl) (by kernel_rfl) h
  (fun h => memJ240 val h)
  (fun h => memJ241 val h))
  (fun h => by_way (.eq (.a 4) (.c 2)) (.is (.a 4) 2) (.ne (.a 4) 2) (by kernel_rfl) (by kernel_rfl) h
  (fun h => by_way (.eq (.a 3) (.c 4)) (.is (.a 3) 4) (.ne (.a 3) 4) (by kernel_rfl) (by kernel_rfl) h
  (fun h => memJ242 val h)
  (fun h => memJ243 val h))
  (fun h => by_way (.eq (.a 4) (.c 4)) (.is (.a 4) 4) (.ne (.a 4) 4) (by kernel_rfl) (by kernel_rfl) h
  (fun h => by_way (.eq (.a 3) (.c 4)) (.is (.a 3) 4) (.ne (.a 3) 4) (by kernel_rfl) (by kernel_rfl) h
  (fun h => memJ244 val h)
  (fun h => memJ245 val h))
  (fun h => by_way (.eq (.a 4) (.c 8)) (.is (.a 4) 8) (.ne (.a 4) 8) (by kernel_rfl) (by kernel_rfl) h
  (fun h => by_way (.eq (.a 3) (.c 4)) (.is (.a 3) 4) (.ne (.a 3) 4) (by kernel_rfl) (by kernel_rfl) h
  (fun h => memJ246 val h)
  (fun h => memJ247 val h))
  (fun h => memJ248 val h)))))
  (fun h => memJ249 val h))
  (fun h => memJ250 val h))
  (fun h => memJ251 val h))

theorem memJSub46 (val : Nat → Int) (h : Holds val [.is (.a 0) 0, .is (.a 6) 16, .ne (.a 6) 8, .ne (.a 6) 4, .ne (.a 6) 2, .ne (.a 6) 1, .ne (.a 6) 0, .le (.a 5) 2147483647, .ge (.a 5) (-2147483648)]) : MemJ val :=
  by_way (.eq (.a 1) (.c 0)) (.is (.a 1) 0) (.ne (.a 1) 0) (by kernel_rfl) (by kernel_rfl) h
  (fun h => memJSub47 val h)
  (fun h => memJ252 val h)

theorem memJSub53 (val : Nat → Int) (h : Holds val [.ne (.a 2) 0, .le (.a 1) 15, .ge (.a 1) 0, .is (.a 0) 5, .ne (.a 0) 8, .ne (.a 0) 0, .is (.a 6) 16, .ne (.a 6) 8, .ne (.a 6) 4, .ne (.a 6) 2, .ne (.a 6) 1, .ne (.a 6) 0, .le (.a 5) 2147483647, .ge (.a 5) (-2147483648)]) : MemJ val :=
  by_way (.eq (.a 2) (.c 5)) (.is (.a 2) 5) (.ne (.a 2) 5) (by kernel_rfl) (by kernel_rfl) h
  (fun h => by_way (.le (.c 0) (.a 3)) (.ge (.a 3) 0) (.le (.a 3) (-1)) (by kernel_rfl) (by kernel_rfl) h
  (fun h => by_way (.lt (.a 3) (.c 16)) (.le (.a 3) 15) (.ge (.a 3) 16) (by kernel_rfl) (by kernel_rfl) h
  (fun h => by_way (.eq (.a 4) (.c 1)) (.is (.a 4) 1) (.ne (.a 4) 1) (by kernel_rfl) (by kernel_rfl) h
  (fun h => by_way (.eq (.a 3) (.c 4)) (.is (.a 3) 4) (.ne (.a 3) 4) (by kernel_rfl) (by kernel_rfl) h
  (fun h => by_way (.eq (.a 1) (.c 4)) (.is (.a 1) 4) (.ne (.a 1) 4) (by kernel_rfl) (by kernel_rfl) h
  (fun h => memJ268 val h)
  (fun h => memJ269 val h))
  (fun h => memJ270 val h))
  (fun h => by_way (.eq (.a 4) (.c 2)) (.is (.a 4) 2) (.ne (.a 4) 2) (by kernel_rfl) (by kernel_rfl) h
  (fun h => by_way (.eq (.a 3) (.c 4)) (.is (.a 3) 4) (.ne (.a 3) 4) (by kernel_rfl) (by kernel_rfl) h
  (fun h => memJ271 val h)
  (fun h => memJ272 val h))
  (fun h => by_way (.eq (.a 4) (.c 4)) (.is (.a 4) 4) (.ne (.a 4) 4) (by kernel_rfl) (by kernel_rfl) h
  (fun h => by_way (.eq (.a 3) (.c 4)) (.is (.a 3) 4) (.ne (.a 3) 4) (by kernel_rfl) (by kernel_rfl) h
  (fun h => memJ273 val h)
  (fun h => memJ274 val h))
  (fun h => by_way (.eq (.a 4) (.c 8)) (.is (.a 4) 8) (.ne (.a 4) 8) (by kernel_rfl) (by kernel_rfl) h
  (fun h => by_way (.eq (.a 3) (.c 4)) (.is (.a 3) 4) (.ne (.a 3) 4) (by kernel_rfl) (by kernel_rfl) h
  (fun h => memJ275 val h)
  (fun h => memJ276 val h))
  (fun h => memJ277 val h)))))
  (fun h => memJ278 val h))
  (fun h => memJ279 val h))
  (fun h => memJ280 val h)

theorem memJSub52 (val : Nat → Int) (h : Holds val [.le (.a 1) 15, .ge (.a 1) 0, .is (.a 0) 5, .ne (.a 0) 8, .ne (.a 0) 0, .is (.a 6) 16, .ne (.a 6) 8, .ne (.a 6) 4, .ne (.a 6) 2, .ne (.a 6) 1, .ne (.a 6) 0, .le (.a 5) 2147483647, .ge (.a 5) (-2147483648)]) : MemJ val :=
  by_way (.eq (.a 2) (.c 0)) (.is (.a 2) 0) (.ne (.a 2) 0) (by kernel_rfl) (by kernel_rfl) h
  (fun h => by_way (.eq (.a 3) (.c 0)) (.is (.a 3) 0) (.ne (.a 3) 0) (by kernel_rfl) (by kernel_rfl) h
  (fun h => by_way (.eq (.a 4) (.c 0)) (.is (.a 4) 0) (.ne (.a 4) 0) (by kernel_rfl) (by kernel_rfl) h
  (fun h => memJ265 val h)
  (fun h => memJ266 val h))
  (fun h => memJ267 val h))
  (fun h => memJSub53 val h)

theorem memJSub51 (val : Nat → Int) (h : Holds val [.ge (.a 1) 0, .is (.a 0) 5, .ne (.a 0) 8, .ne (.a 0) 0, .is (.a 6) 16, .ne (.a 6) 8, .ne (.a 6) 4, .ne (.a 6) 2, .ne (.a 6) 1, .ne (.a 6) 0, .le (.a 5) 2147483647, .ge (.a 5) (-2147483648)]) : MemJ val :=
  by_way (.lt (.a 1) (.c 16)) (.le (.a 1) 15) (.ge (.a 1) 16) (by kernel_rfl) (by kernel_rfl) h
  (fun h => memJSub52 val h)
  (fun h => memJ281 val h)

theorem memJSub50 (val : Nat → Int) (h : Holds val [.is (.a 0) 5, .ne (.a 0) 8, .ne (.a 0) 0, .is (.a 6) 16, .ne (.a 6) 8, .ne (.a 6) 4, .ne (.a 6) 2, .ne (.a 6) 1, .ne (.a 6) 0, .le (.a 5) 2147483647, .ge (.a 5) (-2147483648)]) : MemJ val :=
  by_way (.le (.c 0) (.a 1)) (.ge (.a 1) 0) (.le (.a 1) (-1)) (by kernel_rfl) (by kernel_rfl) h
  (fun h => memJSub51 val h)
  (fun h => memJ282 val h)

theorem memJSub49 (val : Nat → Int) (h : Holds val [.ne (.a 0) 8, .ne (.a 0) 0, .is (.a 6) 16, .ne (.a 6) 8, .ne (.a 6) 4, .ne (.a 6) 2, .ne (.a 6) 1, .ne (.a 6) 0, .le (.a 5) 2147483647, .ge (.a 5) (-2147483648)]) : MemJ val :=
  by_way (.eq (.a 0) (.c 5)) (.is (.a 0) 5) (.ne (.a 0) 5) (by kernel_rfl) (by kernel_rfl) h
  (fun h => memJSub50 val h)
  (fun h => memJ283 val h)

theorem memJSub48 (val : Nat → Int) (h : Holds val [.ne (.a 0) 0, .is (.a 6) 16, .ne (.a 6) 8, .ne (.a 6) 4, .ne (.a 6) 2, .ne (.a 6) 1, .ne (.a 6) 0, .le (.a 5) 2147483647, .ge (.a 5) (-2147483648)]) : MemJ val :=
  by_way (.eq (.a 0) (.c 8)) (.is (.a 0) 8) (.ne (.a 0) 8) (by kernel_rfl) (by kernel_rfl) h
  (fun h => by_way (.eq (.a 1) (.c 0)) (.is (.a 1) 0) (.ne (.a 1) 0) (by kernel_rfl) (by kernel_rfl) h
  (fun h => by_way (.eq (.a 2) (.c 0)) (.is (.a 2) 0) (.ne (.a 2) 0) (by kernel_rfl) (by kernel_rfl) h
  (fun h => by_way (.eq (.a 3) (.c 0)) (.is (.a 3) 0) (.ne (.a 3) 0) (by kernel_rfl) (by kernel_rfl) h
  (fun h => by_way (.eq (.a 4) (.c 0)) (.is (.a 4) 0) (.ne (.a 4) 0) (by kernel_rfl) (by kernel_rfl) h
  (fun h => memJ253 val h)
  (fun h => memJ254 val h))
  (fun h => memJ255 val h))
  (fun h => by_way (.eq (.a 2) (.c 5)) (.is (.a 2) 5) (.ne (.a 2) 5) (by kernel_rfl) (by kernel_rfl) h
  (fun h => by_way (.le (.c 0) (.a 3)) (.ge (.a 3) 0) (.le (.a 3) (-1)) (by kernel_rfl) (by kernel_rfl) h
  (fun h => by_way (.lt (.a 3) (.c 16)) (.le (.a 3) 15) (.ge (.a 3) 16) (by kernel_rfl) (by kernel_rfl) h
  (fun h => by_way (.eq (.a 4) (.c 1)) (.is (.a 4) 1) (.ne (.a 4) 1) (by kernel_rfl) (by kernel_rfl) h
  (fun h => memJ256 val h)
  (fun h => by_way (.eq (.a 4) (.c 2)) (.is (.a 4) 2) (.ne (.a 4) 2) (by kernel_rfl) (by kernel_rfl) h
  (fun h => memJ257 val h)
  (fun h => by_way (.eq (.a 4) (.c 4)) (.is (.a 4) 4) (.ne (.a 4) 4) (by kernel_rfl) (by kernel_rfl) h
  (fun h => memJ258 val h)
  (fun h => by_way (.eq (.a 4) (.c 8)) (.is (.a 4) 8) (.ne (.a 4) 8) (by kernel_rfl) (by kernel_rfl) h
  (fun h => memJ259 val h)
  (fun h => memJ260 val h)))))
  (fun h => memJ261 val h))
  (fun h => memJ262 val h))
  (fun h => memJ263 val h)))
  (fun h => memJ264 val h))
  (fun h => memJSub49 val h)

theorem memJSub45 (val : Nat → Int) (h : Holds val [.is (.a 6) 16, .ne (.a 6) 8, .ne (.a 6) 4, .ne (.a 6) 2, .ne (.a 6) 1, .ne (.a 6) 0, .le (.a 5) 2147483647, .ge (.a 5) (-2147483648)]) : MemJ val :=
  by_way (.eq (.a 0) (.c 0)) (.is (.a 0) 0) (.ne (.a 0) 0) (by kernel_rfl) (by kernel_rfl) h
  (fun h => memJSub46 val h)
  (fun h => memJSub48 val h)

theorem memJSub57 (val : Nat → Int) (h : Holds val [.is (.a 1) 0, .is (.a 0) 0, .is (.a 6) 32, .ne (.a 6) 16, .ne (.a 6) 8, .ne (.a 6) 4, .ne (.a 6) 2, .ne (.a 6) 1, .ne (.a 6) 0, .le (.a 5) 2147483647, .ge (.a 5) (-2147483648)]) : MemJ val :=
  by_way (.eq (.a 2) (.c 0)) (.is (.a 2) 0) (.ne (.a 2) 0) (by kernel_rfl) (by kernel_rfl) h
  (fun h => by_way (.eq (.a 3) (.c 0)) (.is (.a 3) 0) (.ne (.a 3) 0) (by kernel_rfl) (by kernel_rfl) h
  (fun h => by_way (.eq (.a 4) (.c 0)) (.is (.a 4) 0) (.ne (.a 4) 0) (by kernel_rfl) (by kernel_rfl) h
  (fun h => memJ284 val h)
  (fun h => memJ285 val h))
  (fun h => memJ286 val h))
  (fun h => by_way (.eq (.a 2) (.c 5)) (.is (.a 2) 5) (.ne (.a 2) 5) (by kernel_rfl) (by kernel_rfl) h
  (fun h => by_way (.le (.c 0) (.a 3)) (.ge (.a 3) 0) (.le (.a 3) (-1)) (by kernel_rfl) (by kernel_rfl) h
  (fun h => by_way (.lt (.a 3) (.c 16)) (.le (.a 3) 15) (.ge (.a 3) 16) (by kernel_rfl) (by kernel_rfl) h
  (fun h => by_way (.eq (.a 4) (.c 1)) (.is (.a 4) 1) (.ne (.a 4) 1) (by kernel_rfl) (by kernel_rfl) h
  (fun h => by_way (.eq (.a 3) (.c 4)) (.is (.a 3) 4) (.ne (.a 3) 4) (by kernel_rfl) (by kernel_rfl) h
  (fun h => memJ287 val h)
  (fun h => memJ288 val h))
  (fun h => by_way (.eq (.a 4) (.c 2)) (.is (.a 4) 2) (.ne (.a 4) 2) (by kernel_rfl) (by kernel_rfl) h
  (fun h => by_way (.eq (.a 3) (.c 4)) (.is (.a 3) 4) (.ne (.a 3) 4) (by kernel_rfl) (by kernel_rfl) h
  (fun h => memJ289 val h)
  (fun h => memJ290 val h))
  (fun h => by_way (.eq (.a 4) (.c 4)) (.is (.a 4) 4) (.ne (.a 4) 4) (by kernel_rfl) (by kernel_rfl) h
  (fun h => by_way (.eq (.a 3) (.c 4)) (.is (.a 3) 4) (.ne (.a 3) 4) (by kernel_rfl) (by kernel_rfl) h
  (fun h => memJ291 val h)
  (fun h => memJ292 val h))
  (fun h => by_way (.eq (.a 4) (.c 8)) (.is (.a 4) 8) (.ne (.a 4) 8) (by kernel_rfl) (by kernel_rfl) h
  (fun h => by_way (.eq (.a 3) (.c 4)) (.is (.a 3) 4) (.ne (.a 3) 4) (by kernel_rfl) (by kernel_rfl) h
  (fun h => memJ293 val h)
  (fun h => memJ294 val h))
  (fun h => memJ295 val h)))))
  (fun h => memJ296 val h))
  (fun h => memJ297 val h))
  (fun h => memJ298 val h))

theorem memJSub56 (val : Nat → Int) (h : Holds val [.is (.a 0) 0, .is (.a 6) 32, .ne (.a 6) 16, .ne (.a 6) 8, .ne (.a 6) 4, .ne (.a 6) 2, .ne (.a 6) 1, .ne (.a 6) 0, .le (.a 5) 2147483647, .ge (.a 5) (-2147483648)]) : MemJ val :=
  by_way (.eq (.a 1) (.c 0)) (.is (.a 1) 0) (.ne (.a 1) 0) (by kernel_rfl) (by kernel_rfl) h
  (fun h => memJSub57 val h)
  (fun h => memJ299 val h)

theorem memJSub63 (val : Nat → Int) (h : Holds val [.ne (.a 2) 0, .le (.a 1) 15, .ge (.a 1) 0, .is (.a 0) 5, .ne (.a 0) 8, .ne (.a 0) 0, .is (.a 6) 32, .ne (.a 6) 16, .ne (.a 6) 8, .ne (.a 6) 4, .ne (.a 6) 2, .ne (.a 6) 1, .ne (.a 6) 0, .le (.a 5) 2147483647, .ge (.a 5) (-2147483648)]) : MemJ val :=
  by_way (.eq (.a 2) (.c 5)) (.is (.a 2) 5) (.ne (.a 2) 5) (by kernel_rfl) (by kernel_rfl) h
  (fun h => by_way (.le (.c 0) (.a 3)) (.ge (.a 3) 0) (.le (.a 3) (-1)) (by kernel_rfl) (by kernel_rfl) h
  (fun h => by_way (.lt (.a 3) (.c 16)) (.le (.a 3) 15) (.ge (.a 3) 16) (by kernel_rfl) (by kernel_rfl) h
  (fun h => by_way (.eq (.a 4) (.c 1)) (.is (.a 4) 1) (.ne (.a 4) 1) (by kernel_rfl) (by kernel_rfl) h
  (fun h => by_way (.eq (.a 3) (.c 4)) (.is (.a 3) 4) (.ne (.a 3) 4) (by kernel_rfl) (by kernel_rfl) h
  (fun h => by_way (.eq (.a 1) (.c 4)) (.is (.a 1) 4) (.ne (.a 1) 4) (by kernel_rfl) (by kernel_rfl) h
  (fun h => memJ315 val h)
  (fun h => memJ316 val h))
  (fun h => memJ317 val h))
  (fun h => by_way (.eq (.a 4) (.c 2)) (.is (.a 4) 2) (.ne (.a 4) 2) (by kernel_rfl) (by kernel_rfl) h
  (fun h => by_way (.eq (.a 3) (.c 4)) (.is (.a 3) 4) (.ne (.a 3) 4) (by kernel_rfl) (by kernel_rfl) h
  (fun h => memJ318 val h)
  (fun h => memJ319 val h))
  (fun h => by_way (.eq (.a 4) (.c 4)) (.is (.a 4) 4) (.ne (.a 4) 4) (by kernel_rfl) (by kernel_rfl) h
  (fun h => by_way (.eq (.a 3) (.c 4)) (.is (.a 3) 4) (.ne (.a 3) 4) (by kernel_rfl) (by kernel_rfl) h
  (fun h => memJ320 val h)
  (fun h => memJ321 val h))
  (fun h => by_way (.eq (.a 4) (.c 8)) (.is (.a 4) 8) (.ne (.a 4) 8) (by kernel_rfl) (by kernel_rfl) h
  (fun h => by_way (.eq (.a 3) (.c 4)) (.is (.a 3) 4) (.ne (.a 3) 4) (by kernel_rfl) (by kernel_rfl) h
  (fun h => memJ322 val h)
  (fun h => memJ323 val h))
  (fun h => memJ324 val h)))))
  (fun h => memJ325 val h))
  (fun h => memJ326 val h))
  (fun h => memJ327 val h)

theorem memJSub62 (val : Nat → Int) (h : Holds val [.le (.a 1) 15, .ge (.a 1) 0, .is (.a 0) 5, .ne (.a 0) 8, .ne (.a 0) 0, .is (.a 6) 32, .ne (.a 6) 16, .ne (.a 6) 8, .ne (.a 6) 4, .ne (.a 6) 2, .ne (.a 6) 1, .ne (.a 6) 0, .le (.a 5) 2147483647, .ge (.a 5) (-2147483648)]) : MemJ val :=
  by_way (.eq (.a 2) (.c 0)) (.is (.a 2) 0) (.ne (.a 2) 0) (by kernel_rfl) (by kernel_rfl) h
  (fun h => by_way (.eq (.a 3) (.c 0)) (.is (.a 3) 0) (.ne (.a 3) 0) (by kernel_rfl) (by kernel_rfl) h
  (fun h => by_way (.eq (.a 4) (.c 0)) (.is (.a 4) 0) (.ne (.a 4) 0) (by kernel_rfl) (by kernel_rfl) h
  (fun h => memJ312 val h)
  (fun h => memJ313 val h))
  (fun h => memJ314 val h))
  (fun h => memJSub63 val h)

theorem memJSub61 (val : Nat → Int) (h : Holds val [.ge (.a 1) 0, .is (.a 0) 5, .ne (.a 0) 8, .ne (.a 0) 0, .is (.a 6) 32, .ne (.a 6) 16, .ne (.a 6) 8, .ne (.a 6) 4, .ne (.a 6) 2, .ne (.a 6) 1, .ne (.a 6) 0, .le (.a 5) 2147483647, .ge (.a 5) (-2147483648)]) : MemJ val :=
  by_way (.lt (.a 1) (.c 16)) (.le (.a 1) 15) (.ge (.a 1) 16) (by kernel_rfl) (by kernel_rfl) h
  (fun h => memJSub62 val h)
  (fun h => memJ328 val h)

theorem memJSub60 (val : Nat → Int) (h : Holds val [.is (.a 0) 5, .ne (.a 0) 8, .ne (.a 0) 0, .is (.a 6) 32, .ne (.a 6) 16, .ne (.a 6) 8, .ne (.a 6) 4, .ne (.a 6) 2, .ne (.a 6) 1, .ne (.a 6) 0, .le (.a 5) 2147483647, .ge (.a 5) (-2147483648)]) : MemJ val :=
  by_way (.le (.c 0) (.a 1)) (.ge (.a 1) 0) (.le (.a 1) (-1)) (by kernel_rfl) (by kernel_rfl) h
  (fun h => memJSub61 val h)
  (fun h => memJ329 val h)

theorem memJSub59 (val : Nat → Int) (h : Holds val [.ne (.a 0) 8, .ne (.a 0) 0, .is (.a 6) 32, .ne (.a 6) 16, .ne (.a 6) 8, .ne (.a 6) 4, .ne (.a 6) 2, .ne (.a 6) 1, .ne (.a 6) 0, .le (.a 5) 2147483647, .ge (.a 5) (-2147483648)]) : MemJ val :=
  by_way (.eq (.a 0) (.c 5)) (.is (.a 0) 5) (.ne (.a 0) 5) (by kernel_rfl) (by kernel_rfl) h
  (fun h => memJSub60 val h)
  (fun h => memJ330 val h)

theorem memJSub58 (val : Nat → Int) (h : Holds val [.ne (.a 0) 0, .is (.a 6) 32, .ne (.a 6) 16, .ne (.a 6) 8, .ne (.a 6) 4, .ne (.a 6) 2, .ne (.a 6) 1, .ne (.a 6) 0, .le (.a 5) 2147483647, .ge (.a 5) (-2147483648)]) : MemJ val :=
  by_way (.eq (.a 0) (.c 8)) (.is (.a 0) 8) (.ne (.a 0) 8) (by kernel_rfl) (by kernel_rfl) h
  (fun h => by_way (.eq (.a 1) (.c 0)) (.is (.a 1) 0) (.ne (.a 1) 0) (by kernel_rfl) (by kernel_rfl) h
  (fun h => by_way (.eq (.a 2) (.c 0)) (.is (.a 2) 0) (.ne (.a 2) 0) (by kernel_rfl) (by kernel_rfl) h
  (fun h => by_way (.eq (.a 3) (.c 0)) (.is (.a 3) 0) (.ne (.a 3) 0) (by kernel_rfl) (by kernel_rfl) h
  (fun h => by_way (.eq (.a 4) (.c 0)) (.is (.a 4) 0) (.ne (.a 4) 0) (by kernel_rfl) (by kernel_rfl) h
  (fun h => memJ300 val h)
  (fun h => memJ301 val h))
  (fun h => memJ302 val h))
  (fun h => by_way (.eq (.a 2) (.c 5)) (.is (.a 2) 5) (.ne (.a 2) 5) (by kernel_rfl) (by kernel_rfl) h
  (fun h => by_way (.le (.c 0) (.a 3)) (.ge (.a 3) 0) (.le (.a 3) (-1)) (by kernel_rfl) (by kernel_rfl) h
  (fun h => by_way (.lt (.a 3) (.c 16)) (.le (.a 3) 15) (.ge (.a 3) 16) (by kernel_rfl) (by kernel_rfl) h
  (fun h => by_way (.eq (.a 4) (.c 1)) (.is (.a 4) 1) (.ne (.a 4) 1) (by kernel_rfl) (by kernel_rfl) h
  (fun h => memJ303 val h)
  (fun h => by_way (.eq (.a 4) (.c 2)) (.is (.a 4) 2) (.ne (.a 4) 2) (by kernel_rfl) (by kernel_rfl) h
  (fun h => memJ304 val h)
  (fun h => by_way (.eq (.a 4) (.c 4)) (.is (.a 4) 4) (.ne (.a 4) 4) (by kernel_rfl) (by kernel_rfl) h
  (fun h => memJ305 val h)
  (fun h => by_way (.eq (.a 4) (.c 8)) (.is (.a 4) 8) (.ne (.a 4) 8) (by kernel_rfl) (by kernel_rfl) h
  (fun h => memJ306 val h)
  (fun h => memJ307 val h)))))
  (fun h => memJ308 val h))
  (fun h => memJ309 val h))
  (fun h => memJ310 val h)))
  (fun h => memJ311 val h))
  (fun h => memJSub59 val h)

theorem memJSub55 (val : Nat → Int) (h : Holds val [.is (.a 6) 32, .ne (.a 6) 16, .ne (.a 6) 8, .ne (.a 6) 4, .ne (.a 6) 2, .ne (.a 6) 1, .ne (.a 6) 0, .le (.a 5) 2147483647, .ge (.a 5) (-2147483648)]) : MemJ val :=
  by_way (.eq (.a 0) (.c 0)) (.is (.a 0) 0) (.ne (.a 0) 0) (by kernel_rfl) (by kernel_rfl) h
  (fun h => memJSub56 val h)
  (fun h => memJSub58 val h)

theorem memJSub54 (val : Nat → Int) (h : Holds val [.ne (.a 6) 16, .ne (.a 6) 8, .ne (.a 6) 4, .ne (.a 6) 2, .ne (.a 6) 1, .ne (.a 6) 0, .le (.a 5) 2147483647, .ge (.a 5) (-2147483648)]) : MemJ val :=
  by_way (.eq (.a 6) (.c 32)) (.is (.a 6) 32) (.ne (.a 6) 32) (by kernel_rfl) (by kernel_rfl) h
  (fun h => memJSub55 val h)
  (fun h => memJ331 val h)

theorem memJ (val : Nat → Int) : MemJ val :=
  have h : Holds val [] := holds_nil
  by_way (.lt (.a 5) (.c (-2147483648))) (.le (.a 5) (-2147483649)) (.ge (.a 5) (-2147483648)) (by kernel_rfl) (by kernel_rfl) h
  (fun h => memJ0 val h)
  (fun h => by_way (.lt (.c 2147483647) (.a 5)) (.ge (.a 5) 2147483648) (.le (.a 5) 2147483647) (by kernel_rfl) (by kernel_rfl) h
  (fun h => memJ1 val h)
  (fun h => by_way (.eq (.a 6) (.c 0)) (.is (.a 6) 0) (.ne (.a 6) 0) (by kernel_rfl) (by kernel_rfl) h
  (fun h => memJSub0 val h)
  (fun h => by_way (.eq (.a 6) (.c 1)) (.is (.a 6) 1) (.ne (.a 6) 1) (by kernel_rfl) (by kernel_rfl) h
  (fun h => memJSub9 val h)
  (fun h => by_way (.eq (.a 6) (.c 2)) (.is (.a 6) 2) (.ne (.a 6) 2) (by kernel_rfl) (by kernel_rfl) h
  (fun h => memJSub18 val h)
  (fun h => by_way (.eq (.a 6) (.c 4)) (.is (.a 6) 4) (.ne (.a 6) 4) (by kernel_rfl) (by kernel_rfl) h
  (fun h => memJSub27 val h)
  (fun h => by_way (.eq (.a 6) (.c 8)) (.is (.a 6) 8) (.ne (.a 6) 8) (by kernel_rfl) (by kernel_rfl) h
  (fun h => memJSub36 val h)
  (fun h => by_way (.eq (.a 6) (.c 16)) (.is (.a 6) 16) (.ne (.a 6) 16) (by kernel_rfl) (by kernel_rfl) h
  (fun h => memJSub45 val h)
  (fun h => memJSub54 val h))))))))

end Go.Proofs.Ytlegmdfceifkcaa.Tab
