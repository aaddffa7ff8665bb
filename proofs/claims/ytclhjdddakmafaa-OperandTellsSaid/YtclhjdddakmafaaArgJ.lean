/-
  All ways together.
-/
import Derived.Test.YtclhjdddakmafaaArgJ0
import Derived.Test.YtclhjdddakmafaaArgJ1
import Derived.Test.YtclhjdddakmafaaArgJ2
namespace Go.Proofs.Ytclhjdddakmafaa.Tab
open Go.Sim
set_option maxRecDepth 100000

theorem argJSub4 (val : Nat → Int) (h : Holds val [.ne (.a 1) 3, .ne (.a 1) 1, .ne (.a 1) 8, .ne (.a 1) 2, .is (.a 0) 1]) : ArgJ val :=
  by_way (.eq (.a 1) (.c 4)) (.is (.a 1) 4) (.ne (.a 1) 4) (by kernel_rfl) (by kernel_rfl) h
  (fun h => by_way (.le (.c 0) (.a 2)) (.ge (.a 2) 0) (.le (.a 2) (-1)) (by kernel_rfl) (by kernel_rfl) h
  (fun h => by_way (.lt (.a 2) (.c 16)) (.le (.a 2) 15) (.ge (.a 2) 16) (by kernel_rfl) (by kernel_rfl) h
  (fun h => argJ13 val h)
  (fun h => argJ14 val h))
  (fun h => argJ15 val h))
  (fun h => by_way (.eq (.a 1) (.c 5)) (.is (.a 1) 5) (.ne (.a 1) 5) (by kernel_rfl) (by kernel_rfl) h
  (fun h => by_way (.le (.c 0) (.a 2)) (.ge (.a 2) 0) (.le (.a 2) (-1)) (by kernel_rfl) (by kernel_rfl) h
  (fun h => by_way (.lt (.a 2) (.c 16)) (.le (.a 2) 15) (.ge (.a 2) 16) (by kernel_rfl) (by kernel_rfl) h
  (fun h => argJ16 val h)
  (fun h => argJ17 val h))
  (fun h => argJ18 val h))
  (fun h => by_way (.eq (.a 1) (.c 6)) (.is (.a 1) 6) (.ne (.a 1) 6) (by kernel_rfl) (by kernel_rfl) h
  (fun h => by_way (.le (.c 0) (.a 2)) (.ge (.a 2) 0) (.le (.a 2) (-1)) (by kernel_rfl) (by kernel_rfl) h
  (fun h => by_way (.lt (.a 2) (.c 16)) (.le (.a 2) 15) (.ge (.a 2) 16) (by kernel_rfl) (by kernel_rfl) h
  (fun h => argJ19 val h)
  (fun h => argJ20 val h))
  (fun h => argJ21 val h))
  (fun h => by_way (.eq (.a 1) (.c 7)) (.is (.a 1) 7) (.ne (.a 1) 7) (by kernel_rfl) (by kernel_rfl) h
  (fun h => by_way (.le (.c 0) (.a 2)) (.ge (.a 2) 0) (.le (.a 2) (-1)) (by kernel_rfl) (by kernel_rfl) h
  (fun h => by_way (.lt (.a 2) (.c 16)) (.le (.a 2) 15) (.ge (.a 2) 16) (by kernel_rfl) (by kernel_rfl) h
  (fun h => argJ22 val h)
  (fun h => argJ23 val h))
  (fun h => argJ24 val h))
  (fun h => by_way (.le (.c 0) (.a 2)) (.ge (.a 2) 0) (.le (.a 2) (-1)) (by kernel_rfl) (by kernel_rfl) h
  (fun h => argJ25 val h)
  (fun h => argJ26 val h)))))

theorem argJSub3 (val : Nat → Int) (h : Holds val [.ne (.a 1) 1, .ne (.a 1) 8, .ne (.a 1) 2, .is (.a 0) 1]) : ArgJ val :=
  by_way (.eq (.a 1) (.c 3)) (.is (.a 1) 3) (.ne (.a 1) 3) (by kernel_rfl) (by kernel_rfl) h
  (fun h => by_way (.le (.c 0) (.a 2)) (.ge (.a 2) 0) (.le (.a 2) (-1)) (by kernel_rfl) (by kernel_rfl) h
  (fun h => by_way (.lt (.a 2) (.c 16)) (.le (.a 2) 15) (.ge (.a 2) 16) (by kernel_rfl) (by kernel_rfl) h
  (fun h => argJ10 val h)
  (fun h => argJ11 val h))
  (fun h => argJ12 val h))
  (fun h => argJSub4 val h)

theorem argJSub2 (val : Nat → Int) (h : Holds val [.ne (.a 1) 8, .ne (.a 1) 2, .is (.a 0) 1]) : ArgJ val :=
  by_way (.eq (.a 1) (.c 1)) (.is (.a 1) 1) (.ne (.a 1) 1) (by kernel_rfl) (by kernel_rfl) h
  (fun h => by_way (.le (.c 0) (.a 2)) (.ge (.a 2) 0) (.le (.a 2) (-1)) (by kernel_rfl) (by kernel_rfl) h
  (fun h => by_way (.lt (.a 2) (.c 16)) (.le (.a 2) 15) (.ge (.a 2) 16) (by kernel_rfl) (by kernel_rfl) h
  (fun h => argJ7 val h)
  (fun h => argJ8 val h))
  (fun h => argJ9 val h))
  (fun h => argJSub3 val h)

theorem argJSub1 (val : Nat → Int) (h : Holds val [.ne (.a 1) 2, .is (.a 0) 1]) : ArgJ val :=
  by_way (.eq (.a 1) (.c 8)) (.is (.a 1) 8) (.ne (.a 1) 8) (by kernel_rfl) (by kernel_rfl) h
  (fun h => by_way (.le (.c 0) (.a 2)) (.ge (.a 2) 0) (.le (.a 2) (-1)) (by kernel_rfl) (by kernel_rfl) h
  (fun h => by_way (.lt (.a 2) (.c 1)) (.le (.a 2) 0) (.ge (.a 2) 1) (by kernel_rfl) (by kernel_rfl) h
  (fun h => by_way (.eq (.a 2) (.c 0)) (.is (.a 2) 0) (.ne (.a 2) 0) (by kernel_rfl) (by kernel_rfl) h
  (fun h => argJ3 val h)
  (fun h => argJ4 val h))
  (fun h => argJ5 val h))
  (fun h => argJ6 val h))
  (fun h => argJSub2 val h)

theorem argJSub0 (val : Nat → Int) (h : Holds val [.is (.a 0) 1]) : ArgJ val :=
  by_way (.eq (.a 1) (.c 2)) (.is (.a 1) 2) (.ne (.a 1) 2) (by kernel_rfl) (by kernel_rfl) h
  (fun h => by_way (.le (.c 4) (.a 2)) (.ge (.a 2) 4) (.le (.a 2) 3) (by kernel_rfl) (by kernel_rfl) h
  (fun h => by_way (.lt (.a 2) (.c 8)) (.le (.a 2) 7) (.ge (.a 2) 8) (by kernel_rfl) (by kernel_rfl) h
  (fun h => argJ0 val h)
  (fun h => argJ1 val h))
  (fun h => argJ2 val h))
  (fun h => argJSub1 val h)

theorem argJSub7 (val : Nat → Int) (h : Holds val [.is (.a 4) 0, .is (.a 3) 0, .is (.a 9) 0, .le (.a 8) 2147483647, .ge (.a 8) (-2147483648), .is (.a 0) 2, .ne (.a 0) 1]) : ArgJ val :=
  by_way (.eq (.a 5) (.c 0)) (.is (.a 5) 0) (.ne (.a 5) 0) (by kernel_rfl) (by kernel_rfl) h
  (fun h => by_way (.eq (.a 6) (.c 0)) (.is (.a 6) 0) (.ne (.a 6) 0) (by kernel_rfl) (by kernel_rfl) h
  (fun h => by_way (.eq (.a 7) (.c 0)) (.is (.a 7) 0) (.ne (.a 7) 0) (by kernel_rfl) (by kernel_rfl) h
  (fun h => argJ29 val h)
  (fun h => argJ30 val h))
  (fun h => argJ31 val h))
  (fun h => by_way (.eq (.a 5) (.c 5)) (.is (.a 5) 5) (.ne (.a 5) 5) (by kernel_rfl) (by kernel_rfl) h
  (fun h => by_way (.le (.c 0) (.a 6)) (.ge (.a 6) 0) (.le (.a 6) (-1)) (by kernel_rfl) (by kernel_rfl) h
  (fun h => by_way (.lt (.a 6) (.c 16)) (.le (.a 6) 15) (.ge (.a 6) 16) (by kernel_rfl) (by kernel_rfl) h
  (fun h => by_way (.eq (.a 7) (.c 1)) (.is (.a 7) 1) (.ne (.a 7) 1) (by kernel_rfl) (by kernel_rfl) h
  (fun h => by_way (.eq (.a 6) (.c 4)) (.is (.a 6) 4) (.ne (.a 6) 4) (by kernel_rfl) (by kernel_rfl) h
  (fun h => argJ32 val h)
  (fun h => argJ33 val h))
  (fun h => by_way (.eq (.a 7) (.c 2)) (.is (.a 7) 2) (.ne (.a 7) 2) (by kernel_rfl) (by kernel_rfl) h
  (fun h => by_way (.eq (.a 6) (.c 4)) (.is (.a 6) 4) (.ne (.a 6) 4) (by kernel_rfl) (by kernel_rfl) h
  (fun h => argJ34 val h)
  (fun h => argJ35 val h))
  (fun h => by_way (.eq (.a 7) (.c 4)) (.is (.a 7) 4) (.ne (.a 7) 4) (by kernel_rfl) (by kernel_rfl) h
  (fun h => by_way (.eq (.a 6) (.c 4)) (.is (.a 6) 4) (.ne (.a 6) 4) (by kernel_rfl) (by kernel_rfl) h
  (fun h => argJ36 val h)
  (fun h => argJ37 val h))
  (fun h => by_way (.eq (.a 7) (.c 8)) (.is (.a 7) 8) (.ne (.a 7) 8) (by kernel_rfl) (by kernel_rfl) h
  (fun h => by_way (.eq (.a 6) (.c 4)) (.is (.a 6) 4) (.ne (.a 6) 4) (by kernel_rfl) (by kernel_rfl) h
  (fun h => argJ38 val h)
  (fun h => argJ39 val h))
  (fun h => argJ40 val h)))))
  (fun h => argJ41 val h))
  (fun h => argJ42 val h))
  (fun h => argJ43 val h))

theorem argJSub6 (val : Nat → Int) (h : Holds val [.is (.a 3) 0, .is (.a 9) 0, .le (.a 8) 2147483647, .ge (.a 8) (-2147483648), .is (.a 0) 2, .ne (.a 0) 1]) : ArgJ val :=
  by_way (.eq (.a 4) (.c 0)) (.is (.a 4) 0) (.ne (.a 4) 0) (by kernel_rfl) (by kernel_rfl) h
  (fun h => argJSub7 val h)
  (fun h => argJ44 val h)

theorem argJSub13 (val : Nat → Int) (h : Holds val [.ne (.a 5) 0, .le (.a 4) 15, .ge (.a 4) 0, .is (.a 3) 5, .ne (.a 3) 8, .ne (.a 3) 0, .is (.a 9) 0, .le (.a 8) 2147483647, .ge (.a 8) (-2147483648), .is (.a 0) 2, .ne (.a 0) 1]) : ArgJ val :=
  by_way (.eq (.a 5) (.c 5)) (.is (.a 5) 5) (.ne (.a 5) 5) (by kernel_rfl) (by kernel_rfl) h
  (fun h => by_way (.le (.c 0) (.a 6)) (.ge (.a 6) 0) (.le (.a 6) (-1)) (by kernel_rfl) (by kernel_rfl) h
  (fun h => by_way (.lt (.a 6) (.c 16)) (.le (.a 6) 15) (.ge (.a 6) 16) (by kernel_rfl) (by kernel_rfl) h
  (fun h => by_way (.eq (.a 7) (.c 1)) (.is (.a 7) 1) (.ne (.a 7) 1) (by kernel_rfl) (by kernel_rfl) h
  (fun h => by_way (.eq (.a 6) (.c 4)) (.is (.a 6) 4) (.ne (.a 6) 4) (by kernel_rfl) (by kernel_rfl) h
  (fun h => by_way (.eq (.a 4) (.c 4)) (.is (.a 4) 4) (.ne (.a 4) 4) (by kernel_rfl) (by kernel_rfl) h
  (fun h => argJ60 val h)
  (fun h => argJ61 val h))
  (fun h => argJ62 val h))
  (fun h => by_way (.eq (.a 7) (.c 2)) (.is (.a 7) 2) (.ne (.a 7) 2) (by kernel_rfl) (by kernel_rfl) h
  (fun h => by_way (.eq (.a 6) (.c 4)) (.is (.a 6) 4) (.ne (.a 6) 4) (by kernel_rfl) (by kernel_rfl) h
  (fun h => argJ63 val h)
  (fun h => argJ64 val h))
  (fun h => by_way (.eq (.a 7) (.c 4)) (.is (.a 7) 4) (.ne (.a 7) 4) (by kernel_rfl) (by kernel_rfl) h
  (fun h => by_way (.eq (.a 6) (.c 4)) (.is (.a 6) 4) (.ne (.a 6) 4) (by kernel_rfl) (by kernel_rfl) h
  (fun h => argJ65 val h)
  (fun h => argJ66 val h))
  (fun h => by_way (.eq (.a 7) (.c 8)) (.is (.a 7) 8) (.ne (.a 7) 8) (by kernel_rfl) (by kernel_rfl) h
  (fun h => by_way (.eq (.a 6) (.c 4)) (.is (.a 6) 4) (.ne (.a 6) 4) (by kernel_rfl) (by kernel_rfl) h
  (fun h => argJ67 val h)
  (fun h => argJ68 val h))
  (fun h => argJ69 val h)))))
  (fun h => argJ70 val h))
  (fun h => argJ71 val h))
  (fun h => argJ72 val h)

theorem argJSub12 (val : Nat → Int) (h : Holds val [.le (.a 4) 15, .ge (.a 4) 0, .is (.a 3) 5, .ne (.a 3) 8, .ne (.a 3) 0, .is (.a 9) 0, .le (.a 8) 2147483647, .ge (.a 8) (-2147483648), .is (.a 0) 2, .ne (.a 0) 1]) : ArgJ val :=
  by_way (.eq (.a 5) (.c 0)) (.is (.a 5) 0) (.ne (.a 5) 0) (by kernel_rfl) (by kernel_rfl) h
  (fun h => by_way (.eq (.a 6) (.c 0)) (.is (.a 6) 0) (.ne (.a 6) 0) (by kernel_rfl) (by kernel_rfl) h
  (fun h => by_way (.eq (.a 7) (.c 0)) (.is (.a 7) 0) (.ne (.a 7) 0) (by kernel_rfl) (by kernel_rfl) h
  (fun h => argJ57 val h)
  (fun h => argJ58 val h))
  (fun h => argJ59 val h))
  (fun h => argJSub13 val h)

theorem argJSub11 (val : Nat → Int) (h : Holds val [.ge (.a 4) 0, .is (.a 3) 5, .ne (.a 3) 8, .ne (.a 3) 0, .is (.a 9) 0, .le (.a 8) 2147483647, .ge (.a 8) (-2147483648), .is (.a 0) 2, .ne (.a 0) 1]) : ArgJ val :=
  by_way (.lt (.a 4) (.c 16)) (.le (.a 4) 15) (.ge (.a 4) 16) (by kernel_rfl) (by kernel_rfl) h
  (fun h => argJSub12 val h)
  (fun h => argJ73 val h)

theorem argJSub10 (val : Nat → Int) (h : Holds val [.is (.a 3) 5, .ne (.a 3) 8, .ne (.a 3) 0, .is (.a 9) 0, .le (.a 8) 2147483647, .ge (.a 8) (-2147483648), .is (.a 0) 2, .ne (.a 0) 1]) : ArgJ val :=
  by_way (.le (.c 0) (.a 4)) (.ge (.a 4) 0) (.le (.a 4) (-1)) (by kernel_rfl) (by kernel_rfl) h
  (fun h => argJSub11 val h)
  (fun h => argJ74 val h)

theorem argJSub9 (val : Nat → Int) (h : Holds val [.ne (.a 3) 8, .ne (.a 3) 0, .is (.a 9) 0, .le (.a 8) 2147483647, .ge (.a 8) (-2147483648), .is (.a 0) 2, .ne (.a 0) 1]) : ArgJ val :=
  by_way (.eq (.a 3) (.c 5)) (.is (.a 3) 5) (.ne (.a 3) 5) (by kernel_rfl) (by kernel_rfl) h
  (fun h => argJSub10 val h)
  (fun h => argJ75 val h)

theorem argJSub8 (val : Nat → Int) (h : Holds val [.ne (.a 3) 0, .is (.a 9) 0, .le (.a 8) 2147483647, .ge (.a 8) (-2147483648), .is (.a 0) 2, .ne (.a 0) 1]) : ArgJ val :=
  by_way (.eq (.a 3) (.c 8)) (.is (.a 3) 8) (.ne (.a 3) 8) (by kernel_rfl) (by kernel_rfl) h
  (fun h => by_way (.eq (.a 4) (.c 0)) (.is (.a 4) 0) (.ne (.a 4) 0) (by kernel_rfl) (by kernel_rfl) h
  (fun h => by_way (.eq (.a 5) (.c 0)) (.is (.a 5) 0) (.ne (.a 5) 0) (by kernel_rfl) (by kernel_rfl) h
  (fun h => by_way (.eq (.a 6) (.c 0)) (.is (.a 6) 0) (.ne (.a 6) 0) (by kernel_rfl) (by kernel_rfl) h
  (fun h => by_way (.eq (.a 7) (.c 0)) (.is (.a 7) 0) (.ne (.a 7) 0) (by kernel_rfl) (by kernel_rfl) h
  (fun h => argJ45 val h)
  (fun h => argJ46 val h))
  (fun h => argJ47 val h))
  (fun h => by_way (.eq (.a 5) (.c 5)) (.is (.a 5) 5) (.ne (.a 5) 5) (by kernel_rfl) (by kernel_rfl) h
  (fun h => by_way (.le (.c 0) (.a 6)) (.ge (.a 6) 0) (.le (.a 6) (-1)) (by kernel_rfl) (by kernel_rfl) h
  (fun h => by_way (.lt (.a 6) (.c 16)) (.le (.a 6) 15) (.ge (.a 6) 16) (by kernel_rfl) (by kernel_rfl) h
  (fun h => by_way (.eq (.a 7) (.c 1)) (.is (.a 7) 1) (.ne (.a 7) 1) (by kernel_rfl) (by kernel_rfl) h
  (fun h => argJ48 val h)
  (fun h => by_way (.eq (.a 7) (.c 2)) (.is (.a 7) 2) (.ne (.a 7) 2) (by kernel_rfl) (by kernel_rfl) h
  (fun h => argJ49 val h)
  (fun h => by_way (.eq (.a 7) (.c 4)) (.is (.a 7) 4) (.ne (.a 7) 4) (by kernel_rfl) (by kernel_rfl) h
  (fun h => argJ50 val h)
  (fun h => by_way (.eq (.a 7) (.c 8)) (.is (.a 7) 8) (.ne (.a 7) 8) (by kernel_rfl) (by kernel_rfl) h
  (fun h => argJ51 val h)
  (fun h => argJ52 val h)))))
  (fun h => argJ53 val h))
  (fun h => argJ54 val h))
  (fun h => argJ55 val h)))
  (fun h => argJ56 val h))
  (fun h => argJSub9 val h)

theorem argJSub5 (val : Nat → Int) (h : Holds val [.is (.a 9) 0, .le (.a 8) 2147483647, .ge (.a 8) (-2147483648), .is (.a 0) 2, .ne (.a 0) 1]) : ArgJ val :=
  by_way (.eq (.a 3) (.c 0)) (.is (.a 3) 0) (.ne (.a 3) 0) (by kernel_rfl) (by kernel_rfl) h
  (fun h => argJSub6 val h)
  (fun h => argJSub8 val h)

theorem argJSub16 (val : Nat → Int) (h : Holds val [.is (.a 4) 0, .is (.a 3) 0, .is (.a 9) 1, .ne (.a 9) 0, .le (.a 8) 2147483647, .ge (.a 8) (-2147483648), .is (.a 0) 2, .ne (.a 0) 1]) : ArgJ val :=
  by_way (.eq (.a 5) (.c 0)) (.is (.a 5) 0) (.ne (.a 5) 0) (by kernel_rfl) (by kernel_rfl) h
  (fun h => by_way (.eq (.a 6) (.c 0)) (.is (.a 6) 0) (.ne (.a 6) 0) (by kernel_rfl) (by kernel_rfl) h
  (fun h => by_way (.eq (.a 7) (.c 0)) (.is (.a 7) 0) (.ne (.a 7) 0) (by kernel_rfl) (by kernel_rfl) h
  (fun h => argJ76 val h)
  (fun h => argJ77 val h))
  (fun h => argJ78 val h))
  (fun h => by_way (.eq (.a 5) (.c 5)) (.is (.a 5) 5) (.ne (.a 5) 5) (by kernel_rfl) (by kernel_rfl) h
  (fun h => by_way (.le (.c 0) (.a 6)) (.ge (.a 6) 0) (.le (.a 6) (-1)) (by kernel_rfl) (by kernel_rfl) h
  (fun h => by_way (.lt (.a 6) (.c 16)) (.le (.a 6) 15) (.ge (.a 6) 16) (by kernel_rfl) (by kernel_rfl) h
  (fun h => by_way (.eq (.a 7) (.c 1)) (.is (.a 7) 1) (.ne (.a 7) 1) (by kernel_rfl) (by kernel_rfl) h
  (fun h => by_way (.eq (.a 6) (.c 4)) (.is (.a 6) 4) (.ne (.a 6) 4) (by kernel_rfl) (by kernel_rfl) h
  (fun h => argJ79 val h)
  (fun h => argJ80 val h))
  (fun h => by_way (.eq (.a 7) (.c 2)) (.is (.a 7) 2) (.ne (.a 7) 2) (by kernel_rfl) (by kernel_rfl) h
  (fun h => by_way (.eq (.a 6) (.c 4)) (.is (.a 6) 4) (.ne (.a 6) 4) (by kernel_rfl) (by kernel_rfl) h
  (fun h => argJ81 val h)
  (fun h => argJ82 val h))
  (fun h => by_way (.eq (.a 7) (.c 4)) (.is (.a 7) 4) (.ne (.a 7) 4) (by kernel_rfl) (by kernel_rfl) h
  (fun h => by_way (.eq (.a 6) (.c 4)) (.is (.a 6) 4) (.ne (.a 6) 4) (by kernel_rfl) (by kernel_rfl) h
  (fun h => argJ83 val h)
  (fun h => argJ84 val h))
  (fun h => by_way (.eq (.a 7) (.c 8)) (.is (.a 7) 8) (.ne (.a 7) 8) (by kernel_rfl) (by kernel_rfl) h
  (fun h => by_way (.eq (.a 6) (.c 4)) (.is (.a 6) 4) (.ne (.a 6) 4) (by kernel_rfl) (by kernel_rfl) h
  (fun h => argJ85 val h)
  (fun h => argJ86 val h))
  (fun h => argJ87 val h)))))
  (fun h => argJ88 val h))
  (fun h => argJ89 val h))
  (fun h => argJ90 val h))

theorem argJSub15 (val : Nat → Int) (h : Holds val [.is (.a 3) 0, .is (.a 9) 1, .ne (.a 9) 0, .le (.a 8) 2147483647, .ge (.a 8) (-2147483648), .is (.a 0) 2, .ne (.a 0) 1]) : ArgJ val :=
  by_way (.eq (.a 4) (.c 0)) (.is (.a 4) 0) (.ne (.a 4) 0) (by kernel_rfl) (by kernel_rfl) h
  (fun h => argJSub16 val h)
  (fun h => argJ91 val h)

theorem argJSub22 (val : Nat → Int) (h : Holds val [.ne (.a 5) 0, .le (.a 4) 15, .ge (.a 4) 0, .is (.a 3) 5, .ne (.a 3) 8, .ne (.a 3) 0, .is (.a 9) 1, .ne (.a 9) 0, .le (.a 8) 2147483647, .ge (.a 8) (-2147483648), .is (.a 0) 2, .ne (.a 0) 1]) : ArgJ val :=
  by_way (.eq (.a 5) (.c 5)) (.is (.a 5) 5) (.ne (.a 5) 5) (by kernel_rfl) (by kernel_rfl) h
  (fun h => by_way (.le (.c 0) (.a 6)) (.ge (.a 6) 0) (.le (.a 6) (-1)) (by kernel_rfl) (by kernel_rfl) h
  (fun h => by_way (.lt (.a 6) (.c 16)) (.le (.a 6) 15) (.ge (.a 6) 16) (by kernel_rfl) (by kernel_rfl) h
  (fun h => by_way (.eq (.a 7) (.c 1)) (.is (.a 7) 1) (.ne (.a 7) 1) (by kernel_rfl) (by kernel_rfl) h
  (fun h => by_way (.eq (.a 6) (.c 4)) (.is (.a 6) 4) (.ne (.a 6) 4) (by kernel_rfl) (by kernel_rfl) h
  (fun h => by_way (.eq (.a 4) (.c 4)) (.is (.a 4) 4) (.ne (.a 4) 4) (by kernel_rfl) (by kernel_rfl) h
  (fun h => argJ107 val h)
  (fun h => argJ108 val h))
  (fun h => argJ109 val h))
  (fun h => by_way (.eq (.a 7) (.c 2)) (.is (.a 7) 2) (.ne (.a 7) 2) (by kernel_rfl) (by kernel_rfl) h
  (fun h => by_way (.eq (.a 6) (.c 4)) (.is (.a 6) 4) (.ne (.a 6) 4) (by kernel_rfl) (by kernel_rfl) h
  (fun h => argJ110 val h)
  (fun h => argJ111 val h))
  (fun h => by_way (.eq (.a 7) (.c 4)) (.is (.a 7) 4) (.ne (.a 7) 4) (by kernel_rfl) (by kernel_rfl) h
  (fun h => by_way (.eq (.a 6) (.c 4)) (.is (.a 6) 4) (.ne (.a 6) 4) (by kernel_rfl) (by kernel_rfl) h
  (fun h => argJ112 val h)
  (fun h => argJ113 val h))
  (fun h => by_way (.eq (.a 7) (.c 8)) (.is (.a 7) 8) (.ne (.a 7) 8) (by kernel_rfl) (by kernel_rfl) h
  (fun h => by_way (.eq (.a 6) (.c 4)) (.is (.a 6) 4) (.ne (.a 6) 4) (by kernel_rfl) (by kernel_rfl) h
  (fun h => argJ114 val h)
  (fun h => argJ115 val h))
  (fun h => argJ116 val h)))))
  (fun h => argJ117 val h))
  (fun h => argJ118 val h))
  (fun h => argJ119 val h)

theorem argJSub21 (val : Nat → Int) (h : Holds val [.le (.a 4) 15, .ge (.a 4) 0, .is (.a 3) 5, .ne (.a 3) 8, .ne (.a 3) 0, .is (.a 9) 1, .ne (.a 9) 0, .le (.a 8) 2147483647, .ge (.a 8) (-2147483648), .is (.a 0) 2, .ne (.a 0) 1]) : ArgJ val :=
  by_way (.eq (.a 5) (.c 0)) (.is (.a 5) 0) (.ne (.a 5) 0) (by kernel_rfl) (by kernel_rfl) h
  (fun h => by_way (.eq (.a 6) (.c 0)) (.is (.a 6) 0) (.ne (.a 6) 0) (by kernel_rfl) (by kernel_rfl) h
  (fun h => by_way (.eq (.a 7) (.c 0)) (.is (.a 7) 0) (.ne (.a 7) 0) (by kernel_rfl) (by kernel_rfl) h
  (fun h => argJ104 val h)
  (fun h => argJ105 val h))
  (fun h => argJ106 val h))
  (fun h => argJSub22 val h)

theorem argJSub20 (val : Nat → Int) (h : Holds val [.ge (.a 4) 0, .is (.a 3) 5, .ne (.a 3) 8, .ne (.a 3) 0, .is (.a 9) 1, .ne (.a 9) 0, .le (.a 8) 2147483647, .ge (.a 8) (-2147483648), .is (.a 0) 2, .ne (.a 0) 1]) : ArgJ val :=
  by_way (.lt (.a 4) (.c 16)) (.le (.a 4) 15) (.ge (.a 4) 16) (by kernel_rfl) (by kernel_rfl) h
  (fun h => argJSub21 val h)
  (fun h => argJ120 val h)

theorem argJSub19 (val : Nat → Int) (h : Holds val [.is (.a 3) 5, .ne (.a 3) 8, .ne (.a 3) 0, .is (.a 9) 1, .ne (.a 9) 0, .le (.a 8) 2147483647, .ge (.a 8) (-2147483648), .is (.a 0) 2, .ne (.a 0) 1]) : ArgJ val :=
  by_way (.le (.c 0) (.a 4)) (.ge (.a 4) 0) (.le (.a 4) (-1)) (by kernel_rfl) (by kernel_rfl) h
  (fun h => argJSub20 val h)
  (fun h => argJ121 val h)

theorem argJSub18 (val : Nat → Int) (h : Holds val [.ne (.a 3) 8, .ne (.a 3) 0, .is (.a 9) 1, .ne (.a 9) 0, .le (.a 8) 2147483647, .ge (.a 8) (-2147483648), .is (.a 0) 2, .ne (.a 0) 1]) : ArgJ val :=
  by_way (.eq (.a 3) (.c 5)) (.is (.a 3) 5) (.ne (.a 3) 5) (by kernel_rfl) (by kernel_rfl) h
  (fun h => argJSub19 val h)
  (fun h => argJ122 val h)

theorem argJSub17 (val : Nat → Int) (h : Holds val [.ne (.a 3) 0, .is (.a 9) 1, .ne (.a 9) 0, .le (.a 8) 2147483647, .ge (.a 8) (-2147483648), .is (.a 0) 2, .ne (.a 0) 1]) : ArgJ val :=
  by_way (.eq (.a 3) (.c 8)) (.is (.a 3) 8) (.ne (.a 3) 8) (by kernel_rfl) (by kernel_rfl) h
  (fun h => by_way (.eq (.a 4) (.c 0)) (.is (.a 4) 0) (.ne (.a 4) 0) (by kernel_rfl) (by kernel_rfl) h
  (fun h => by_way (.eq (.a 5) (.c 0)) (.is (.a 5) 0) (.ne (.a 5) 0) (by kernel_rfl) (by kernel_rfl) h
  (fun h => by_way (.eq (.a 6) (.c 0)) (.is (.a 6) 0) (.ne (.a 6) 0) (by kernel_rfl) (by kernel_rfl) h
  (fun h => by_way (.eq (.a 7) (.c 0)) (.is (.a 7) 0) (.ne (.a 7) 0) (by kernel_rfl) (by kernel_rfl) h
  (fun h => argJ92 val h)
  (fun h => argJ93 val h))
  (fun h => argJ94 val h))
  (fun h => by_way (.eq (.a 5) (.c 5)) (.is (.a 5) 5) (.ne (.a 5) 5) (by kernel_rfl) (by kernel_rfl) h
  (fun h => by_way (.le (.c 0) (.a 6)) (.ge (.a 6) 0) (.le (.a 6) (-1)) (by kernel_rfl) (by kernel_rfl) h
  (fun h => by_way (.lt (.a 6) (.c 16)) (.le (.a 6) 15) (.ge (.a 6) 16) (by kernel_rfl) (by kernel_rfl) h
  (fun h => by_way (.eq (.a 7) (.c 1)) (.is (.a 7) 1) (.ne (.a 7) 1) (by kernel_rfl) (by kernel_rfl) h
  (fun h => argJ95 val h)
  (fun h => by_way (.eq (.a 7) (.c 2)) (.is (.a 7) 2) (.ne (.a 7) 2) (by kernel_rfl) (by kernel_rfl) h
  (fun h => argJ96 val h)
  (fun h => by_way (.eq (.a 7) (.c 4)) (.is (.a 7) 4) (.ne (.a 7) 4) (by kernel_rfl) (by kernel_rfl) h
  (fun h => argJ97 val h)
  (fun h => by_way (.eq (.a 7) (.c 8)) (.is (.a 7) 8) (.ne (.a 7) 8) (by kernel_rfl) (by kernel_rfl) h
  (fun h => argJ98 val h)
  (fun h => argJ99 val h)))))
  (fun h => argJ100 val h))
  (fun h => argJ101 val h))
  (fun h => argJ102 val h)))
  (fun h => argJ103 val h))
  (fun h => argJSub18 val h)

theorem argJSub14 (val : Nat → Int) (h : Holds val [.is (.a 9) 1, .ne (.a 9) 0, .le (.a 8) 2147483647, .ge (.a 8) (-2147483648), .is (.a 0) 2, .ne (.a 0) 1]) : ArgJ val :=
  by_way (.eq (.a 3) (.c 0)) (.is (.a 3) 0) (.ne (.a 3) 0) (by kernel_rfl) (by kernel_rfl) h
  (fun h => argJSub15 val h)
  (fun h => argJSub17 val h)

theorem argJSub25 (val : Nat → Int) (h : Holds val [.is (.a 4) 0, .is (.a 3) 0, .is (.a 9) 2, .ne (.a 9) 1, .ne (.a 9) 0, .le (.a 8) 2147483647, .ge (.a 8) (-2147483648), .is (.a 0) 2, .ne (.a 0) 1]) : ArgJ val :=
  by_way (.eq (.a 5) (.c 0)) (.is (.a 5) 0) (.ne (.a 5) 0) (by kernel_rfl) (by kernel_rfl) h
  (fun h => by_way (.eq (.a 6) (.c 0)) (.is (.a 6) 0) (.ne (.a 6) 0) (by kernel_rfl) (by kernel_rfl) h
  (fun h => by_way (.eq (.a 7) (.c 0)) (.is (.a 7) 0) (.ne (.a 7) 0) (by kernel_rfl) (by kernel_rfl) h
  (fun h => argJ123 val h)
  (fun h => argJ124 val h))
  (fun h => argJ125 val h))
  (fun h => by_way (.eq (.a 5) (.c 5)) (.is (.a 5) 5) (.ne (.a 5) 5) (by kernel_rfl) (by kernel_rfl) h
  (fun h => by_way (.le (.c 0) (.a 6)) (.ge (.a 6) 0) (.le (.a 6) (-1)) (by kernel_rfl) (by kernel_rfl) h
  (fun h => by_way (.lt (.a 6) (.c 16)) (.le (.a 6) 15) (.ge (.a 6) 16) (by kernel_rfl) (by kernel_rfl) h
  (fun h => by_way (.eq (.a 7) (.c 1)) (.is (.a 7) 1) (.ne (.a 7) 1) (by kernel_rfl) (by kernel_rfl) h
  (fun h => by_way (.eq (.a 6) (.c 4)) (.is (.a 6) 4) (.ne (.a 6) 4) (by kernel_rfl) (by kernel_rfl) h
  (fun h => argJ126 val h)
  (fun h => argJ127 val h))
  (fun h => by_way (.eq (.a 7) (.c 2)) (.is (.a 7) 2) (.ne (.a 7) 2) (by kernel_rfl) (by kernel_rfl) h
  (fun h => by_way (.eq (.a 6) (.c 4)) (.is (.a 6) 4) (.ne (.a 6) 4) (by kernel_rfl) (by kernel_rfl) h
  (fun h => argJ128 val h)
  (fun h => argJ129 val h))
  (fun h => by_way (.eq (.a 7) (.c 4)) (.is (.a 7) 4) (.ne (.a 7) 4) (by kernel_rfl) (by kernel_rfl) h
  (fun h => by_way (.eq (.a 6) (.c 4)) (.is (.a 6) 4) (.ne (.a 6) 4) (by kernel_rfl) (by kernel_rfl) h
  (fun h => argJ130 val h)
  (fun h => argJ131 val h))
  (fun h => by_way (.eq (.a 7) (.c 8)) (.is (.a 7) 8) (.ne (.a 7) 8) (by kernel_rfl) (by kernel_rfl) h
  (fun h => by_way (.eq (.a 6) (.c 4)) (.is (.a 6) 4) (.ne (.a 6) 4) (by kernel_rfl) (by kernel_rfl) h
  (fun h => argJ132 val h)
  (fun h => argJ133 val h))
  (fun h => argJ134 val h)))))
  (fun h => argJ135 val h))
  (fun h => argJ136 val h))
  (fun h => argJ137 val h))

theorem argJSub24 (val : Nat → Int) (h : Holds val [.is (.a 3) 0, .is (.a 9) 2, .ne (.a 9) 1, .ne (.a 9) 0, .le (.a 8) 2147483647, .ge (.a 8) (-2147483648), .is (.a 0) 2, .ne (.a 0) 1]) : ArgJ val :=
  by_way (.eq (.a 4) (.c 0)) (.is (.a 4) 0) (.ne (.a 4) 0) (by kernel_rfl) (by kernel_rfl) h
  (fun h => argJSub25 val h)
  (fun h => argJ138 val h)

theorem argJSub31 (val : Nat → Int) (h : Holds val [.ne (.a 5) 0, .le (.a 4) 15, .ge (.a 4) 0, .is (.a 3) 5, .ne (.a 3) 8, .ne (.a 3) 0, .is (.a 9) 2, .ne (.a 9) 1, .ne (.a 9) 0, .le (.a 8) 2147483647, .ge (.a 8) (-2147483648), .is (.a 0) 2, .ne (.a 0) 1]) : ArgJ val :=
  by_way (.eq (.a 5) (.c 5)) (.is (.a 5) 5) (.ne (.a 5) 5) (by kernel_rfl) (by kernel_rfl) h
  (fun h => by_way (.le (.c 0) (.a 6)) (.ge (.a 6) 0) (.le (.a 6) (-1)) (by kernel_rfl) (by kernel_rfl) h
  (fun h => by_way (.lt (.a 6) (.c 16)) (.le (.a 6) 15) (.ge (.a 6) 16) (by kernel_rfl) (by kernel_rfl) h
  (fun h => by_way (.eq (.a 7) (.c 1)) (.is (.a 7) 1) (.ne (.a 7) 1) (by kernel_rfl) (by kernel_rfl) h
  (fun h => by_way (.eq (.a 6) (.c 4)) (.is (.a 6) 4) (.ne (.a 6) 4) (by kernel_rfl) (by kernel_rfl) h
  (fun h => by_way (.eq (.a 4) (.c 4)) (.is (.a 4) 4) (.ne (.a 4) 4) (by kernel_rfl) (by kernel_rfl) h
  (fun h => argJ154 val h)
  (fun h => argJ155 val h))
  (fun h => argJ156 val h))
  (fun h => by_way (.eq (.a 7) (.c 2)) (.is (.a 7) 2) (.ne (.a 7) 2) (by kernel_rfl) (by kernel_rfl) h
  (fun h => by_way (.eq (.a 6) (.c 4)) (.is (.a 6) 4) (.ne (.a 6) 4) (by kernel_rfl) (by kernel_rfl) h
  (fun h => argJ157 val h)
  (fun h => argJ158 val h))
  (fun h => by_way (.eq (.a 7) (.c 4)) (.is (.a 7) 4) (.ne (.a 7) 4) (by kernel_rfl) (by kernel_rfl) h
  (fun h => by_way (.eq (.a 6) (.c 4)) (.is (.a 6) 4) (.ne (.a 6) 4) (by kernel_rfl) (by kernel_rfl) h
  (fun h => argJ159 val h)
  (fun h => argJ160 val h))
  (fun h => by_way (.eq (.a 7) (.c 8)) (.is (.a 7) 8) (.ne (.a 7) 8) (by kernel_rfl) (by kernel_rfl) h
  (fun h => by_way (.eq (.a 6) (.c 4)) (.is (.a 6) 4) (.ne (.a 6) 4) (by kernel_rfl) (by kernel_rfl) h
  (fun h => argJ161 val h)
  (fun h => argJ162 val h))
  (fun h => argJ163 val h)))))
  (fun h => argJ164 val h))
  (fun h => argJ165 val h))
  (fun h => argJ166 val h)

theorem argJSub30 (val : Nat → Int) (h : Holds val [.le (.a 4) 15, .ge (.a 4) 0, .is (.a 3) 5, .ne (.a 3) 8, .ne (.a 3) 0, .is (.a 9) 2, .ne (.a 9) 1, .ne (.a 9) 0, .le (.a 8) 2147483647, .ge (.a 8) (-2147483648), .is (.a 0) 2, .ne (.a 0) 1]) : ArgJ val :=
  by_way (.eq (.a 5) (.c 0)) (.is (.a 5) 0) (.ne (.a 5) 0) (by kernel_rfl) (by kernel_rfl) h
  (fun h => by_way (.eq (.a 6) (.c 0)) (.is (.a 6) 0) (.ne (.a 6) 0) (by kernel_rfl) (by kernel_rfl) h
  (fun h => by_way (.eq (.a 7) (.c 0)) (.is (.a 7) 0) (.ne (.a 7) 0) (by kernel_rfl) (by kernel_rfl) h
  (fun h => argJ151 val h)
  (fun h => argJ152 val h))
  (fun h => argJ153 val h))
  (fun h => argJSub31 val h)

theorem argJSub29 (val : Nat → Int) (h : Holds val [.ge (.a 4) 0, .is (.a 3) 5, .ne (.a 3) 8, .ne (.a 3) 0, .is (.a 9) 2, .ne (.a 9) 1, .ne (.a 9) 0, .le (.a 8) 2147483647, .ge (.a 8) (-2147483648), .is (.a 0) 2, .ne (.a 0) 1]) : ArgJ val :=
  by_way (.lt (.a 4) (.c 16)) (.le (.a 4) 15) (.ge (.a 4) 16) (by kernel_rfl) (by kernel_rfl) h
  (fun h => argJSub30 val h)
  (fun h => argJ167 val h)

theorem argJSub28 (val : Nat → Int) (h : Holds val [.is (.a 3) 5, .ne (.a 3) 8, .ne (.a 3) 0, .is (.a 9) 2, .ne (.a 9) 1, .ne (.a 9) 0, .le (.a 8) 2147483647, .ge (.a 8) (-2147483648), .is (.a 0) 2, .ne (.a 0) 1]) : ArgJ val :=
  by_way (.le (.c 0) (.a 4)) (.ge (.a 4) 0) (.le (.a 4) (-1)) (by kernel_rfl) (by kernel_rfl) h
  (fun h => argJSub29 val h)
  (fun h => argJ168 val h)

theorem argJSub27 (val : Nat → Int) (h : Holds val [.ne (.a 3) 8, .ne (.a 3) 0, .is (.a 9) 2, .ne (.a 9) 1, .ne (.a 9) 0, .le (.a 8) 2147483647, .ge (.a 8) (-2147483648), .is (.a 0) 2, .ne (.a 0) 1]) : ArgJ val :=
  by_way (.eq (.a 3) (.c 5)) (.is (.a 3) 5) (.ne (.a 3) 5) (by kernel_rfl) (by kernel_rfl) h
  (fun h => argJSub28 val h)
  (fun h => argJ169 val h)

theorem argJSub26 (val : Nat → Int) (h : Holds val [.ne (.a 3) 0, .is (.a 9) 2, .ne (.a 9) 1, .ne (.a 9) 0, .le (.a 8) 2147483647, .ge (.a 8) (-2147483648), .is (.a 0) 2, .ne (.a 0) 1]) : ArgJ val :=
  by_way (.eq (.a 3) (.c 8)) (.is (.a 3) 8) (.ne (.a 3) 8) (by kernel_rfl) (by kernel_rfl) h
  (fun h => by_way (.eq (.a 4) (.c 0)) (.is (.a 4) 0) (.ne (.a 4) 0) (by kernel_rfl) (by kernel_rfl) h
  (fun h => by_way (.eq (.a 5) (.c 0)) (.is (.a 5) 0) (.ne (.a 5) 0) (by kernel_rfl) (by kernel_rfl) h
  (fun h => by_way (.eq (.a 6) (.c 0)) (.is (.a 6) 0) (.ne (.a 6) 0) (by kernel_rfl) (by kernel_rfl) h
  (fun h => by_way (.eq (.a 7) (.c 0)) (.is (.a 7) 0) (.ne (.a 7) 0) (by kernel_rfl) (by kernel_rfl) h
  (fun h => argJ139 val h)
  (fun h => argJ140 val h))
  (fun h => argJ141 val h))
  (fun h => by_way (.eq (.a 5) (.c 5)) (.is (.a 5) 5) (.ne (.a 5) 5) (by kernel_rfl) (by kernel_rfl) h
  (fun h => by_way (.le (.c 0) (.a 6)) (.ge (.a 6) 0) (.le (.a 6) (-1)) (by kernel_rfl) (by kernel_rfl) h
  (fun h => by_way (.lt (.a 6) (.c 16)) (.le (.a 6) 15) (.ge (.a 6) 16) (by kernel_rfl) (by kernel_rfl) h
  (fun h => by_way (.eq (.a 7) (.c 1)) (.is (.a 7) 1) (.ne (.a 7) 1) (by kernel_rfl) (by kernel_rfl) h
  (fun h => argJ142 val h)
  (fun h => by_way (.eq (.a 7) (.c 2)) (.is (.a 7) 2) (.ne (.a 7) 2) (by kernel_rfl) (by kernel_rfl) h
  (fun h => argJ143 val h)
  (fun h => by_way (.eq (.a 7) (.c 4)) (.is (.a 7) 4) (.ne (.a 7) 4) (by kernel_rfl) (by kernel_rfl) h
  (fun h => argJ144 val h)
  (fun h => by_way (.eq (.a 7) (.c 8)) (.is (.a 7) 8) (.ne (.a 7) 8) (by kernel_rfl) (by kernel_rfl) h
  (fun h => argJ145 val h)
  (fun h => argJ146 val h)))))
  (fun h => argJ147 val h))
  (fun h => argJ148 val h))
  (fun h => argJ149 val h)))
  (fun h => argJ150 val h))
  (fun h => argJSub27 val h)

theorem argJSub23 (val : Nat → Int) (h : Holds val [.is (.a 9) 2, .ne (.a 9) 1, .ne (.a 9) 0, .le (.a 8) 2147483647, .ge (.a 8) (-2147483648), .is (.a 0) 2, .ne (.a 0) 1]) : ArgJ val :=
  by_way (.eq (.a 3) (.c 0)) (.is (.a 3) 0) (.ne (.a 3) 0) (by kernel_rfl) (by kernel_rfl) h
  (fun h => argJSub24 val h)
  (fun h => argJSub26 val h)

theorem argJSub34 (val : Nat → Int) (h : Holds val [.is (.a 4) 0, .is (.a 3) 0, .is (.a 9) 4, .ne (.a 9) 2, .ne (.a 9) 1, .ne (.a 9) 0, .le (.a 8) 2147483647, .ge (.a 8) (-2147483648), .is (.a 0) 2, .ne (.a 0) 1]) : ArgJ val :=
  by_way (.eq (.a 5) (.c 0)) (.is (.a 5) 0) (.ne (.a 5) 0) (by kernel_rfl) (by kernel_rfl) h
  (fun h => by_way (.eq (.a 6) (.c 0)) (.is (.a 6) 0) (.ne (.a 6) 0) (by kernel_rfl) (by kernel_rfl) h
  (fun h => by_way (.eq (.a 7) (.c 0)) (.is (.a 7) 0) (.ne (.a 7) 0) (by kernel_rfl) (by kernel_rfl) h
  (fun h => argJ170 val h)
  (fun h => argJ171 val h))
  (fun h => argJ172 val h))
  (fun h => by_way (.eq (.a 5) (.c 5)) (.is (.a 5) 5) (.ne (.a 5) 5) (by kernel_rfl) (by kernel_rfl) h
  (fun h => by_way (.le (.c 0) (.a 6)) (.ge (.a 6) 0) (.le (.a 6) (-1)) (by kernel_rfl) (by kernel_rfl) h
  (fun h => by_way (.lt (.a 6) (.c 16)) (.le (.a 6) 15) (.ge (.a 6) 16) (by kernel_rfl) (by kernel_rfl) h
  (fun h => by_way (.eq (.a 7) (.c 1)) (.is (.a 7) 1) (.ne (.a 7) 1) (by kernel_rfl) (by kernel_rfl) h
  (fun h => by_way (.eq (.a 6) (.c 4)) (.is (.a 6) 4) (.ne (.a 6) 4) (by kernel_rfl) (by kernel_rfl) h
  (fun h => argJ173 val h)
  (fun h => argJ174 val h))
  (fun h => by_way (.eq (.a 7) (.c 2)) (.is (.a 7) 2) (.ne (.a 7) 2) (by kernel_rfl) (by kernel_rfl) h
  (fun h => by_way (.eq (.a 6) (.c 4)) (.is (.a 6) 4) (.ne (.a 6) 4) (by kernel_rfl) (by kernel_rfl) h
  (fun h => argJ175 val h)
  (fun h => argJ176 val h))
  (fun h => by_way (.eq (.a 7) (.c 4)) (.is (.a 7) 4) (.ne (.a 7) 4) (by kernel_rfl) (by kernel_rfl) h
  (fun h => by_way (.eq (.a 6) (.c 4)) (.is (.a 6) 4) (.ne (.a 6) 4) (by kernel_rfl) (by kernel_rfl) h
  (fun h => argJ177 val h)
  (fun h => argJ178 val h))
  (fun h => by_way (.eq (.a 7) (.c 8)) (.is (.a 7) 8) (.ne (.a 7) 8) (by kernel_rfl) (by kernel_rfl) h
  (fun h => by_way (.eq (.a 6) (.c 4)) (.is (.a 6) 4) (.ne (.a 6) 4) (by kernel_rfl) (by kernel_rfl) h
  (fun h => argJ179 val h)
  (fun h => argJ180 val h))
  (fun h => argJ181 val h)))))
  (fun h => argJ182 val h))
  (fun h => argJ183 val h))
  (fun h => argJ184 val h))

theorem argJSub33 (val : Nat → Int) (h : Holds val [.is (.a 3) 0, .is (.a 9) 4, .ne (.a 9) 2, .ne (.a 9) 1, .ne (.a 9) 0, .le (.a 8) 2147483647, .ge (.a 8) (-2147483648), .is (.a 0) 2, .ne (.a 0) 1]) : ArgJ val :=
  by_way (.eq (.a 4) (.c 0)) (.is (.a 4) 0) (.ne (.a 4) 0) (by kernel_rfl) (by kernel_rfl) h
  (fun h => argJSub34 val h)
  (fun h => argJ185 val h)

theorem argJSub40 (val : Nat → Int) (h : Holds val [.ne (.a 5) 0, .le (.a 4) 15, .ge (.a 4) 0, .is (.a 3) 5, .ne (.a 3) 8, .ne (.a 3) 0, .is (.a 9) 4, .ne (.a 9) 2, .ne (.a 9) 1, .ne (.a 9) 0, .le (.a 8) 2147483647, .ge (.a 8) (-2147483648), .is (.a 0) 2, .ne (.a 0) 1]) : ArgJ val :=
  by_way (.eq (.a 5) (.c 5)) (.is (.a 5) 5) (.ne (.a 5) 5) (by kernel_rfl) (by kernel_rfl) h
  (fun h => by_way (.le (.c 0) (.a 6)) (.ge (.a 6) 0) (.le (.a 6) (-1)) (by kernel_rfl) (by kernel_rfl) h
  (fun h => by_way (.lt (.a 6) (.c 16)) (.le (.a 6) 15) (.ge (.a 6) 16) (by kernel_rfl) (by kernel_rfl) h
  (fun h => by_way (.eq (.a 7) (.c 1)) (.is (.a 7) 1) (.ne (.a 7) 1) (by kernel_rfl) (by kernel_rfl) h
  (fun h => by_way (.eq (.a 6) (.c 4)) (.is (.a 6) 4) (.ne (.a 6) 4) (by kernel_rfl) (by kernel_rfl) h
  (fun h => by_way (.eq (.a 4) (.c 4)) (.is (.a 4) 4) (.ne (.a 4) 4) (by kernel_rfl) (by kernel_rfl) h
  (fun h => argJ201 val h)
  (fun h => argJ202 val h))
  (fun h => argJ203 val h))
  (fun h => by_way (.eq (.a 7) (.c 2)) (.is (.a 7) 2) (.ne (.a 7) 2) (by kernel_rfl) (by kernel_rfl) h
  (fun h => by_way (.eq (.a 6) (.c 4)) (.is (.a 6) 4) (.ne (.a 6) 4) (by kernel_rfl) (by kernel_rfl) h
  (fun h => argJ204 val h)
  (fun h => argJ205 val h))
  (fun h => by_way (.eq (.a 7) (.c 4)) (.is (.a 7) 4) (.ne (.a 7) 4) (by kernel_rfl) (by kernel_rfl) h
  (fun h => by_way (.eq (.a 6) (.c 4)) (.is (.a 6) 4) (.ne (.a 6) 4) (by kernel_rfl) (by kernel_rfl) h
  (fun h => argJ206 val h)
  (fun h => argJ207 val h))
  (fun h => by_way (.eq (.a 7) (.c 8)) (.is (.a 7) 8) (.ne (.a 7) 8) (by kernel_rfl) (by kernel_rfl) h
  (fun h => by_way (.eq (.a 6) (.c 4)) (.is (.a 6) 4) (.ne (.a 6) 4) (by kernel_rfl) (by kernel_rfl) h
  (fun h => argJ208 val h)
  (fun h => argJ209 val h))
  (fun h => argJ210 val h)))))
  (fun h => argJ211 val h))
  (fun h => argJ212 val h))
  (fun h => argJ213 val h)

theorem argJSub39 (val : Nat → Int) (h : Holds val [.le (.a 4) 15, .ge (.a 4) 0, .is (.a 3) 5, .ne (.a 3) 8, .ne (.a 3) 0, .is (.a 9) 4, .ne (.a 9) 2, .ne (.a 9) 1, .ne (.a 9) 0, .le (.a 8) 2147483647, .ge (.a 8) (-2147483648), .is (.a 0) 2, .ne (.a 0) 1]) : ArgJ val :=
  by_way (.eq (.a 5) (.c 0)) (.is (.a 5) 0) (.ne (.a 5) 0) (by kernel_rfl) (by kernel_rfl) h
  (fun h => by_way (.eq (.a 6) (.c 0)) (.is (.a 6) 0) (.ne (.a 6) 0) (by kernel_rfl) (by kernel_rfl) h
  (fun h => by_way (.eq (.a 7) (.c 0)) (.is (.a 7) 0) (.ne (.a 7) 0) (by kernel_rfl) (by kernel_rfl) h
  (fun h => argJ198 val h)
  (fun h => argJ199 val h))
  (fun h => argJ200 val h))
  (fun h => argJSub40 val h)

theorem argJSub38 (val : Nat → Int) (h : Holds val [.ge (.a 4) 0, .is (.a 3) 5, .ne (.a 3) 8, .ne (.a 3) 0, .is (.a 9) 4, .ne (.a 9) 2, .ne (.a 9) 1, .ne (.a 9) 0, .le (.a 8) 2147483647, .ge (.a 8) (-2147483648), .is (.a 0) 2, .ne (.a 0) 1]) : ArgJ val :=
  by_way (.lt (.a 4) (.c 16)) (.le (.a 4) 15) (.ge (.a 4) 16) (by kernel_rfl) (by kernel_rfl) h
  (fun h => argJSub39 val h)
  (fun h => argJ214 val h)

theorem argJSub37 (val : Nat → Int) (h : Holds val [.is (.a 3) 5, .ne (.a 3) 8, .ne (.a 3) 0, .is (.a 9) 4, .ne (.a 9) 2, .ne (.a 9) 1, .ne (.a 9) 0, .le (.a 8) 2147483647, .ge (.a 8) (-2147483648), .is (.a 0) 2, .ne (.a 0) 1]) : ArgJ val :=
  by_way (.le (.c 0) (.a 4)) (.ge (.a 4) 0) (.le (.a 4) (-1)) (by kernel_rfl) (by kernel_rfl) h
  (fun h => argJSub38 val h)
  (fun h => argJ215 val h)

theorem argJSub36 (val : Nat → Int) (h : Holds val [.ne (.a 3) 8, .ne (.a 3) 0, .is (.a 9) 4, .ne (.a 9) 2, .ne (.a 9) 1, .ne (.a 9) 0, .le (.a 8) 2147483647, .ge (.a 8) (-2147483648), .is (.a 0) 2, .ne (.a 0) 1]) : ArgJ val :=
  by_way (.eq (.a 3) (.c 5)) (.is (.a 3) 5) (.ne (.a 3) 5) (by kernel_rfl) (by kernel_rfl) h
  (fun h => argJSub37 val h)
  (fun h => argJ216 val h)

theorem argJSub35 (val : Nat → Int) (h : Holds val [.ne (.a 3) 0, .is (.a 9) 4, .ne (.a 9) 2, .ne (.a 9) 1, .ne (.a 9) 0, .le (.a 8) 2147483647, .ge (.a 8) (-2147483648), .is (.a 0) 2, .ne (.a 0) 1]) : ArgJ val :=
  by_way (.eq (.a 3) (.c 8)) (.is (.a 3) 8) (.ne (.a 3) 8) (by kernel_rfl) (by kernel_rfl) h
  (fun h => by_way (.eq (.a 4) (.c 0)) (.is (.a 4) 0) (.ne (.a 4) 0) (by kernel_rfl) (by kernel_rfl) h
  (fun h => by_way (.eq (.a 5) (.c 0)) (.is (.a 5) 0) (.ne (.a 5) 0) (by kernel_rfl) (by kernel_rfl) h
  (fun h => by_way (.eq (.a 6) (.c 0)) (.is (.a 6) 0) (.ne (.a 6) 0) (by kernel_rfl) (by kernel_rfl) h
  (fun h => by_way (.eq (.a 7) (.c 0)) (.is (.a 7) 0) (.ne (.a 7) 0) (by kernel_rfl) (by kernel_rfl) h
  (fun h => argJ186 val h)
  (fun h => argJ187 val h))
  (fun h => argJ188 val h))
  (fun h => by_way (.eq (.a 5) (.c 5)) (.is (.a 5) 5) (.ne (.a 5) 5) (by kernel_rfl) (by kernel_rfl) h
  (fun h => by_way (.le (.c 0) (.a 6)) (.ge (.a 6) 0) (.le (.a 6) (-1)) (by kernel_rfl) (by kernel_rfl) h
  (fun h => by_way (.lt (.a 6) (.c 16)) (.le (.a 6) 15) (.ge (.a 6) 16) (by kernel_rfl) (by kernel_rfl) h
  (fun h => by_way (.eq (.a 7) (.c 1)) (.is (.a 7) 1) (.ne (.a 7) 1) (by kernel_rfl) (by kernel_rfl) h
  (fun h => argJ189 val h)
  (fun h => by_way (.eq (.a 7) (.c 2)) (.is (.a 7) 2) (.ne (.a 7) 2) (by kernel_rfl) (by kernel_rfl) h
  (fun h => argJ190 val h)
  (fun h => by_way (.eq (.a 7) (.c 4)) (.is (.a 7) 4) (.ne (.a 7) 4) (by kernel_rfl) (by kernel_rfl) h
  (fun h => argJ191 val h)
  (fun h => by_way (.eq (.a 7) (.c 8)) (.is (.a 7) 8) (.ne (.a 7) 8) (by kernel_rfl) (by kernel_rfl) h
  (fun h => argJ192 val h)
  (fun h => argJ193 val h)))))
  (fun h => argJ194 val h))
  (fun h => argJ195 val h))
  (fun h => argJ196 val h)))
  (fun h => argJ197 val h))
  (fun h => argJSub36 val h)

theorem argJSub32 (val : Nat → Int) (h : Holds val [.is (.a 9) 4, .ne (.a 9) 2, .ne (.a 9) 1, .ne (.a 9) 0, .le (.a 8) 2147483647, .ge (.a 8) (-2147483648), .is (.a 0) 2, .ne (.a 0) 1]) : ArgJ val :=
  by_way (.eq (.a 3) (.c 0)) (.is (.a 3) 0) (.ne (.a 3) 0) (by kernel_rfl) (by kernel_rfl) h
  (fun h => argJSub33 val h)
  (fun h => argJSub35 val h)

theorem argJSub43 (val : Nat → Int) (h : Holds val [.is (.a 4) 0, .is (.a 3) 0, .is (.a 9) 8, .ne (.a 9) 4, .ne (.a 9) 2, .ne (.a 9) 1, .ne (.a 9) 0, .le (.a 8) 2147483647, .ge (.a 8) (-2147483648), .is (.a 0) 2, .ne (.a 0) 1]) : ArgJ val :=
  by_way (.eq (.a 5) (.c 0)) (.is (.a 5) 0) (.ne (.a 5) 0) (by kernel_rfl) (by kernel_rfl) h
  (fun h => by_way (.eq (.a 6) (.c 0)) (.is (.a 6) 0) (.ne (.a 6) 0) (by kernel_rfl) (by kernel_rfl) h
  (fun h => by_way (.eq (.a 7) (.c 0)) (.is (.a 7) 0) (.ne (.a 7) 0) (by kernel_rfl) (by kernel_rfl) h
  (fun h => argJ217 val h)
  (fun h => argJ218 val h))
  (fun h => argJ219 val h))
  (fun h => by_way (.eq (.a 5) (.c 5)) (.is (.a 5) 5) (.ne (.a 5) 5) (by kernel_rfl) (by kernel_rfl) h
  (fun h => by_way (.le (.c 0) (.a 6)) (.ge (.a 6) 0) (.le (.a 6) (-1)) (by kernel_rfl) (by kernel_rfl) h
  (fun h => by_way (.lt (.a 6) (.c 16)) (.le (.a 6) 15) (.ge (.a 6) 16) (by kernel_rfl) (by kernel_rfl) h
  (fun h => by_way (.eq (.a 7) (.c 1)) (.is (.a 7) 1) (.ne (.a 7) 1) (by kernel_rfl) (by kernel_rfl) h
  (fun h => by_way (.eq (.a 6) (.c 4)) (.is (.a 6) 4) (.ne (.a 6) 4) (by kernel_rfl) (by kernel_rfl) h
  (fun h => argJ220 val h)
  (fun h => argJ221 val h))
  (fun h => by_way (.eq (.a 7) (.c 2)) (.is (.a 7) 2) (.ne (.a 7) 2) (by kernel_rfl) (by kernel_rfl) h
  (fun h => by_way (.eq (.a 6) (.c 4)) (.is (.a 6) 4) (.ne (.a 6) 4) (by kernel_rfl) (by kernel_rfl) h
  (fun h => argJ222 val h)
  (fun h => argJ223 val h))
  (fun h => by_way (.eq (.a 7) (.c 4)) (.is (.a 7) 4) (.ne (.a 7) 4) (by kernel_rfl) (by kernel_rfl) h
  (fun h => by_way (.eq (.a 6) (.c 4)) (.is (.a 6) 4) (.ne (.a 6) 4) (by kernel_rfl) (by kernel_rfl) h
  (fun h => argJ224 val h)
  (fun h => argJ225 val h))
  (fun h => by_way (.eq (.a 7) (.c 8)) (.is (.a 7) 8) (.ne (.a 7) 8) (by kernel_rfl) (by kernel_rfl) h
  (fun h => by_way (.eq (.a 6) (.c 4)) (.is (.a 6) 4) (.ne (.a 6) 4) (by kernel_rfl) (by kernel_rfl) h
  (fun h => argJ226 val h)
  (fun h => argJ227 val h))
  (fun h => argJ228 val h)))))
  (fun h => argJ229 val h))
  (fun h => argJ230 val h))
  (fun h => argJ231 val h))

theorem argJSub42 (val : Nat → Int) (h : Holds val [.is (.a 3) 0, .is (.a 9) 8, .ne (.a 9) 4, .ne (.a 9) 2, .ne (.a 9) 1, .ne (.a 9) 0, .le (.a 8) 2147483647, .ge (.a 8) (-2147483648), .is (.a 0) 2, .ne (.a 0) 1]) : ArgJ val :=
  by_way (.eq (.a 4) (.c 0)) (.is (.a 4) 0) (.ne (.a 4) 0) (by kernel_rfl) (by kernel_rfl) h
  (fun h => argJSub43 val h)
  (fun h => argJ232 val h)

theorem argJSub49 (val : Nat → Int) (h : Holds val [.ne (.a 5) 0, .le (.a 4) 15, .ge (.a 4) 0, .is (.a 3) 5, .ne (.a 3) 8, .ne (.a 3) 0, .is (.a 9) 8, .ne (.a 9) 4, .ne (.a 9) 2, .ne (.a 9) 1, .ne (.a 9) 0, .le (.a 8) 2147483647, .ge (.a 8) (-2147483648), .is (.a 0) 2, .ne (.a 0) 1]) : ArgJ val :=
  by_way (.eq (.a 5) (.c 5)) (.is (.a 5) 5) (.ne (.a 5) 5) (by kernel_rfl) (by kernel_rfl) h
  (fun h => by_way (.le (.c 0) (.a 6)) (.ge (.a 6) 0) (.le (.a 6) (-1)) (by kernel_rfl) (by kernel_rfl) h
  (fun h => by_way (.lt (.a 6) (.c 16)) (.le (.a 6) 15) (.ge (.a 6) 16) (by kernel_rfl) (by kernel_rfl) h
  (fun h => by_way (.eq (.a 7) (.c 1)) (.is (.a 7) 1) (.ne (.a 7) 1) (by kernel_rfl) (by kernel_rfl) h
  (fun h => by_way (.eq (.a 6) (.c 4)) (.is (.a 6) 4) (.ne (.a 6) 4) (by kernel_rfl) (by kernel_rfl) h
  (fun h => by_way (.eq (.a 4) (.c 4)) (.is (.a 4) 4) (.ne (.a 4) 4) (by kernel_rfl) (by kernel_rfl) h
  (fun h => argJ248 val h)
  (fun h => argJ249 val h))
  (fun h => argJ250 val h))
  (fun h => by_way (.eq (.a 7) (.c 2)) (.is (.a 7) 2) (.ne (.a 7) 2) (by kernel_rfl) (by kernel_rfl) h
  (fun h => by_way (.eq (.a 6) (.c 4)) (.is (.a 6) 4) (.ne (.a 6) 4) (by kernel_rfl) (by kernel_rfl) h
  (fun h => argJ251 val h)
  (fun h => argJ252 val h))
  (fun h => by_way (.eq (.a 7) (.c 4)) (.is (.a 7) 4) (.ne (.a 7) 4) (by kernel_rfl) (by kernel_rfl) h
  (fun h => by_way (.eq (.a 6) (.c 4)) (.is (.a 6) 4) (.ne (.a 6) 4) (by kernel_rfl) (by kernel_rfl) h
  (fun h => argJ253 val h)
  (fun h => argJ254 val h))
  (fun h => by_way (.eq (.a 7) (.c 8)) (.is (.a 7) 8) (.ne (.a 7) 8) (by kernel_rfl) (by kernel_rfl) h
  (fun h => by_way (.eq (.a 6) (.c 4)) (.is (.a 6) 4) (.ne (.a 6) 4) (by kernel_rfl) (by kernel_rfl) h
  (fun h => argJ255 val h)
  (fun h => argJ256 val h))
  (fun h => argJ257 val h)))))
  (fun h => argJ258 val h))
  (fun h => argJ259 val h))
  (fun h => argJ260 val h)

theorem argJSub48 (val : Nat → Int) (h : Holds val [.le (.a 4) 15, .ge (.a 4) 0, .is (.a 3) 5, .ne (.a 3) 8, .ne (.a 3) 0, .is (.a 9) 8, .ne (.a 9) 4, .ne (.a 9) 2, .ne (.a 9) 1, .ne (.a 9) 0, .le (.a 8) 2147483647, .ge (.a 8) (-2147483648), .is (.a 0) 2, .ne (.a 0) 1]) : ArgJ val :=
  by_way (.eq (.a 5) (.c 0)) (.is (.a 5) 0) (.ne (.a 5) 0) (by kernel_rfl) (by kernel_rfl) h
  (fun h => by_way (.eq (.a 6) (.c 0)) (.is (.a 6) 0) (.ne (.a 6) 0) (by kernel_rfl) (by kernel_rfl) h
  (fun h => by_way (.eq (.a 7) (.c 0)) (.is (.a 7) 0) (.ne (.a 7) 0) (by kernel_rfl) (by kernel_rfl) h
  (fun h => argJ245 val h)
  (fun h => argJ246 val h))
  (fun h => argJ247 val h))
  (fun h => argJSub49 val h)

theorem argJSub47 (val : Nat → Int) (h : Holds val [.ge (.a 4) 0, .is (.a 3) 5, .ne (.a 3) 8, .ne (.a 3) 0, .is (.a 9) 8, .ne (.a 9) 4, .ne (.a 9) 2, .ne (.a 9) 1, .ne (.a 9) 0, .le (.a 8) 2147483647, .ge (.a 8) (-2147483648), .is (.a 0) 2, .ne (.a 0) 1]) : ArgJ val :=
  by_way (.lt (.a 4) (.c 16)) (.le (.a 4) 15) (.ge (.a 4) 16) (by kernel_rfl) (by kernel_rfl) h
  (fun h => argJSub48 val h)
  (fun h => argJ261 val h)

theorem argJSub46 (val : Nat → Int) (h : Holds val [.is (.a 3) 5, .ne (.a 3) 8, .ne (.a 3) 0, .is (.a 9) 8, .ne (.a 9) 4, .ne (.a 9) 2, .ne (.a 9) 1, .ne (.a 9) 0, .le (.a 8) 2147483647, .ge (.a 8) (-2147483648), .is (.a 0) 2, .ne (.a 0) 1]) : ArgJ val :=
  by_way (.le (.c 0) (.a 4)) (.ge (.a 4) 0) (.le (.a 4) (-1)) (by kernel_rfl) (by kernel_rfl) h
  (fun h => argJSub47 val h)
  (fun h => argJ262 val h)

theorem argJSub45 (val : Nat → Int) (h : Holds val [.ne (.a 3) 8, .ne (.a 3) 0, .is (.a 9) 8, .ne (.a 9) 4, .ne (.a 9) 2, .ne (.a 9) 1, .ne (.a 9) 0, .le (.a 8) 2147483647, .ge (.a 8) (-2147483648), .is (.a 0) 2, .ne (.a 0) 1]) : ArgJ val :=
  by_way (.eq (.a 3) (.c 5)) (.is (.a 3) 5) (.ne (.a 3) 5) (by kernel_rfl) (by kernel_rfl) h
  (fun h => argJSub46 val h)
  (fun h => argJ263 val h)

theorem argJSub44 (val : Nat → Int) (h : Holds val [.ne (.a 3) 0, .is (.a 9) 8, .ne (.a 9) 4, .ne (.a 9) 2, .ne (.a 9) 1, .ne (.a 9) 0, .le (.a 8) 2147483647, .ge (.a 8) (-2147483648), .is (.a 0) 2, .ne (.a 0) 1]) : ArgJ val :=
  by_way (.eq (.a 3) (.c 8)) (.is (.a 3) 8) (.ne (.a 3) 8) (by kernel_rfl) (by kernel_rfl) h
  (fun h => by_way (.eq (.a 4) (.c 0)) (.is (.a 4) 0) (.ne (.a 4) 0) (by kernel_rfl) (by kernel_rfl) h
  (fun h => by_way (.eq (.a 5) (.c 0)) (.is (.a 5) 0) (.ne (.a 5) 0) (by kernel_rfl) (by kernel_rfl) h
  (fun h => by_way (.eq (.a 6) (.c 0)) (.is (.a 6) 0) (.ne (.a 6) 0) (by kernel_rfl) (by kernel_rfl) h
  (fun h => by_way (.eq (.a 7) (.c 0)) (.is (.a 7) 0) (.ne (.a 7) 0) (by kernel_rfl) (by kernel_rfl) h
  (fun h => argJ233 val h)
  (fun h => argJ234 val h))
  (fun h => argJ235 val h))
  (fun h => by_way (.eq (.a 5) (.c 5)) (.is (.a 5) 5) (.ne (.a 5) 5) (by kernel_rfl) (by kernel_rfl) h
  (fun h => by_way (.le (.c 0) (.a 6)) (.ge (.a 6) 0) (.le (.a 6) (-1)) (by kernel_rfl) (by kernel_rfl) h
  (fun h => by_way (.lt (.a 6) (.c 16)) (.le (.a 6) 15) (.ge (.a 6) 16) (by kernel_rfl) (by kernel_rfl) h
  (fun h => by_way (.eq (.a 7) (.c 1)) (.is (.a 7) 1) (.ne (.a 7) 1) (by kernel_rfl) (by kernel_rfl) h
  (fun h => argJ236 val h)
  (fun h => by_way (.eq (.a 7) (.c 2)) (.is (.a 7) 2) (.ne (.a 7) 2) (by kernel_rfl) (by kernel_rfl) h
  (fun h => argJ237 val h)
  (fun h => by_way (.eq (.a 7) (.c 4)) (.is (.a 7) 4) (.ne (.a 7) 4) (by kernel_rfl) (by kernel_rfl) h
  (fun h => argJ238 val h)
  (fun h => by_way (.eq (.a 7) (.c 8)) (.is (.a 7) 8) (.ne (.a 7) 8) (by kernel_rfl) (by kernel_rfl) h
  (fun h => argJ239 val h)
  (fun h => argJ240 val h)))))
  (fun h => argJ241 val h))
  (fun h => argJ242 val h))
  (fun h => argJ243 val h)))
  (fun h => argJ244 val h))
  (fun h => argJSub45 val h)

theorem argJSub41 (val : Nat → Int) (h : Holds val [.is (.a 9) 8, .ne (.a 9) 4, .ne (.a 9) 2, .ne (.a 9) 1, .ne (.a 9) 0, .le (.a 8) 2147483647, .ge (.a 8) (-2147483648), .is (.a 0) 2, .ne (.a 0) 1]) : ArgJ val :=
  by_way (.eq (.a 3) (.c 0)) (.is (.a 3) 0) (.ne (.a 3) 0) (by kernel_rfl) (by kernel_rfl) h
  (fun h => argJSub42 val h)
  (fun h => argJSub44 val h)

theorem argJSub52 (val : Nat → Int) (h : Holds val [.is (.a 4) 0, .is (.a 3) 0, .is (.a 9) 16, .ne (.a 9) 8, .ne (.a 9) 4, .ne (.a 9) 2, .ne (.a 9) 1, .ne (.a 9) 0, .le (.a 8) 2147483647, .ge (.a 8) (-2147483648), .is (.a 0) 2, .ne (.a 0) 1]) : ArgJ val :=
  by_way (.eq (.a 5) (.c 0)) (.is (.a 5) 0) (.ne (.a 5) 0) (by kernel_rfl) (by kernel_rfl) h
  (fun h => by_way (.eq (.a 6) (.c 0)) (.is (.a 6) 0) (.ne (.a 6) 0) (by kernel_rfl) (by kernel_rfl) h
  (fun h => by_way (.eq (.a 7) (.c 0)) (.is (.a 7) 0) (.ne (.a 7) 0) (by kernel_rfl) (by kernel_rfl) h
  (fun h => argJ264 val h)
  (fun h => argJ265 val h))
  (fun h => argJ266 val h))
  (fun h => by_way (.eq (.a 5) (.c 5)) (.is (.a 5) 5) (.ne (.a 5) 5) (by kernel_rfl) (by kernel_rfl) h
  (fun h => by_way (.le (.c 0) (.a 6)) (.ge (.a 6) 0) (.le (.a 6) (-1)) (by kernel_rfl) (by kernel_rfl) h
  (fun h => by_way (.lt (.a 6) (.c 16)) (.le (.a 6) 15) (.ge (.a 6) 16) (by kernel_rfl) (by kernel_rfl) h
  (fun h => by_way (.eq (.a 7) (.c 1)) (.is (.a 7) 1) (.ne (.a 7) 1) (by kernel_rfl) (by kernel_rfl) h
  (fun h => by_way (.eq (.a 6) (.c 4)) (.is (.a 6) 4) (.ne (.a 6) 4) (by kernel_rfl) (by kernel_rfl) h
  (fun h => argJ267 val h)
  (fun h => argJ268 val h))
  (fun h => by_way (.eq (.a 7) (.c 2)) (.is (.a 7) 2) (.ne (.a 7) 2) (by kernel_rfl) (by kernel_rfl) h
  (fun h => by_way (.eq (.a 6) (.c 4)) (.is (.a 6) 4) (.ne (.a 6) 4) (by kernel_rfl) (by kernel_rfl) h
  (fun h => argJ269 val h)
  (fun h => argJ270 val h))
  (fun h => by_way (.eq (.a 7) (.c 4)) (.is (.a 7) 4) (.ne (.a 7) 4) (by kernel_rfl) (by kernel_rfl) h
  (fun h => by_way (.eq (.a 6) (.c 4)) (.is (.a 6) 4) (.ne (.a 6) 4) (by kernel_rfl) (by kernel_rfl) h
  (fun h => argJ271 val h)
  (fun h => argJ272 val h))
  (fun h => by_way (.eq (.a 7) (.c 8)) (.is (.a 7) 8) (.ne (.a 7) 8) (by kernel_rfl) (by kernel_rfl) h
  (fun h => by_way (.eq (.a 6) (.c 4)) (.is (.a 6) 4) (.ne (.a 6) 4) (by kernel_rfl) (by kernel_rfl) h
  (fun h => argJ273 val h)
  (fun h => argJ274 val h))
  (fun h => argJ275 val h)))))
  (fun h => argJ276 val h))
  (fun h => argJ277 val h))
  (fun h => argJ278 val h))

theorem argJSub51 (val : Nat → Int) (h : Holds val [.is (.a 3) 0, .is (.a 9) 16, .ne (.a 9) 8, .ne (.a 9) 4, .ne (.a 9) 2, .ne (.a 9) 1, .ne (.a 9) 0, .le (.a 8) 2147483647, .ge (.a 8) (-2147483648), .is (.a 0) 2, .ne (.a 0) 1]) : ArgJ val :=
  by_way (.eq (.a 4) (.c 0)) (.is (.a 4) 0) (.ne (.a 4) 0) (by kernel_rfl) (by kernel_rfl) h
  (fun h => argJSub52 val h)
  (fun h => argJ279 val h)

theorem argJSub58 (val : Nat → Int) (h : Holds val [.ne (.a 5) 0, .le (.a 4) 15, .ge (.a 4) 0, .is (.a 3) 5, .ne (.a 3) 8, .ne (.a 3) 0, .is (.a 9) 16, .ne (.a 9) 8, .ne (.a 9) 4, .ne (.a 9) 2, .ne (.a 9) 1, .ne (.a 9) 0, .le (.a 8) 2147483647, .ge (.a 8) (-2147483648), .is (.a 0) 2, .ne (.a 0) 1]) : ArgJ val :=
  by_way (.eq (.a 5) (.c 5)) (.is (.a 5) 5) (.ne (.a 5) 5) (by kernel_rfl) (by kernel_rfl) h
  (fun h => by_way (.le (.c 0) (.a 6)) (.ge (.a 6) 0) (.le (.a 6) (-1)) (by kernel_rfl) (by kernel_rfl) h
  (fun h => by_way (.lt (.a 6) (.c 16)) (.le (.a 6) 15) (.ge (.a 6) 16) (by kernel_rfl) (by kernel_rfl) h
  (fun h => by_way (.eq (.a 7) (.c 1)) (.is (.a 7) 1) (.ne (.a 7) 1) (by kernel_rfl) (by kernel_rfl) h
  (fun h => by_way (.eq (.a 6) (.c 4)) (.is (.a 6) 4) (.ne (.a 6) 4) (by kernel_rfl) (by kernel_rfl) h
  (fun h => by_way (.eq (.a 4) (.c 4)) (.is (.a 4) 4) (.ne (.a 4) 4) (by kernel_rfl) (by kernel_rfl) h
  (fun h => argJ295 val h)
  (fun h => argJ296 val h))
  (fun h => argJ297 val h))
  (fun h => by_way (.eq (.a 7) (.c 2)) (.is (.a 7) 2) (.ne (.a 7) 2) (by kernel_rfl) (by kernel_rfl) h
  (fun h => by_way (.eq (.a 6) (.c 4)) (.is (.a 6) 4) (.ne (.a 6) 4) (by kernel_rfl) (by kernel_rfl) h
  (fun h => argJ298 val h)
  (fun h => argJ299 val h))
  (fun h => by_way (.eq (.a 7) (.c 4)) (.is (.a 7) 4) (.ne (.a 7) 4) (by kernel_rfl) (by kernel_rfl) h
  (fun h => by_way (.eq (.a 6) (.c 4)) (.is (.a 6) 4) (.ne (.a 6) 4) (by kernel_rfl) (by kernel_rfl) h
  (fun h => argJ300 val h)
  (fun h => argJ301 val h))
  (fun h => by_way (.eq (.a 7) (.c 8)) (.is (.a 7) 8) (.ne (.a 7) 8) (by kernel_rfl) (by kernel_rfl) h
  (fun h => by_way (.eq (.a 6) (.c 4)) (.is (.a 6) 4) (.ne (.a 6) 4) (by kernel_rfl) (by kernel_rfl) h
  (fun h => argJ302 val h)
  (fun h => argJ303 val h))
  (fun h => argJ304 val h)))))
  (fun h => argJ305 val h))
  (fun h => argJ306 val h))
  (fun h => argJ307 val h)

theorem argJSub57 (val : Nat → Int) (h : Holds val [.le (.a 4) 15, .ge (.a 4) 0, .is (.a 3) 5, .ne (.a 3) 8, .ne (.a 3) 0, .is (.a 9) 16, .ne (.a 9) 8, .ne (.a 9) 4, .ne (.a 9) 2, .ne (.a 9) 1, .ne (.a 9) 0, .le (.a 8) 2147483647, .ge (.a 8) (-2147483648), .is (.a 0) 2, .ne (.a 0) 1]) : ArgJ val :=
  by_way (.eq (.a 5) (.c 0)) (.is (.a 5) 0) (.ne (.a 5) 0) (by kernel_rfl) (by kernel_rfl) h
  (fun h => by_way (.eq (.a 6) (.c 0)) (.is (.a 6) 0) (.ne (.a 6) 0) (by kernel_rfl) (by kernel_rfl) h
  (fun h => by_way (.eq (.a 7) (.c 0)) (.is (.a 7) 0) (.ne (.a 7) 0) (by kernel_rfl) (by kernel_rfl) h
  (fun h => argJ292 val h)
  (fun h => argJ293 val h))
  (fun h => argJ294 val h))
  (fun h => argJSub58 val h)

theorem argJSub56 (val : Nat → Int) (h : Holds val [.ge (.a 4) 0, .is (.a 3) 5, .ne (.a 3) 8, .ne (.a 3) 0, .is (.a 9) 16, .ne (.a 9) 8, .ne (.a 9) 4, .ne (.a 9) 2, .ne (.a 9) 1, .ne (.a 9) 0, .le (.a 8) 2147483647, .ge (.a 8) (-2147483648), .is (.a 0) 2, .ne (.a 0) 1]) : ArgJ val :=
  by_way (.lt (.a 4) (.c 16)) (.le (.a 4) 15) (.ge (.a 4) 16) (by kernel_rfl) (by kernel_rfl) h
  (fun h => argJSub57 val h)
  (fun h => argJ308 val h)

theorem argJSub55 (val : Nat → Int) (h : Holds val [.is (.a 3) 5, .ne (.a 3) 8, .ne (.a 3) 0, .is (.a 9) 16, .ne (.a 9) 8, .ne (.a 9) 4, .ne (.a 9) 2, .ne (.a 9) 1, .ne (.a 9) 0, .le (.a 8) 2147483647, .ge (.a 8) (-2147483648), .is (.a 0) 2, .ne (.a 0) 1]) : ArgJ val :=
  by_way (.le (.c 0) (.a 4)) (.ge (.a 4) 0) (.le (.a 4) (-1)) (by kernel_rfl) (by kernel_rfl) h
  (fun h => argJSub56 val h)
  (fun h => argJ309 val h)

theorem argJSub54 (val : Nat → Int) (h : Holds val [.ne (.a 3) 8, .ne (.a 3) 0, .is (.a 9) 16, .ne (.a 9) 8, .ne (.a 9) 4, .ne (.a 9) 2, .ne (.a 9) 1, .ne (.a 9) 0, .le (.a 8) 2147483647, .ge (.a 8) (-2147483648), .is (.a 0) 2, .ne (.a 0) 1]) : ArgJ val :=
  by_way (.eq (.a 3) (.c 5)) (.is (.a 3) 5) (.ne (.a 3) 5) (by kernel_rfl) (by kernel_rfl) h
  (fun h => argJSub55 val h)
  (fun h => argJ310 val h)

theorem argJSub53 (val : Nat → Int) (h : Holds val [.ne (.a 3) 0, .is (.a 9) 16, .ne (.a 9) 8, .ne (.a 9) 4, .ne (.a 9) 2, .ne (.a 9) 1, .ne (.a 9) 0, .le (.a 8) 2147483647, .ge (.a 8) (-2147483648), .is (.a 0) 2, .ne (.a 0) 1]) : ArgJ val :=
  by_way (.eq (.a 3) (.c 8)) (.is (.a 3) 8) (.ne (.a 3) 8) (by kernel_rfl) (by kernel_rfl) h
  (fun h => by_way (.eq (.a 4) (.c 0)) (.is (.a 4) 0) (.ne (.a 4) 0) (by kernel_rfl) (by kernel_rfl) h
  (fun h => by_way (.eq (.a 5) (.c 0)) (.is (.a 5) 0) (.ne (.a 5) 0) (by kernel_rfl) (by kernel_rfl) h
  (fun h => by_way (.eq (.a 6) (.c 0)) (.is (.a 6) 0) (.ne (.a 6) 0) (by kernel_rfl) (by kernel_rfl) h
  (fun h => by_way (.eq (.a 7) (.c 0)) (.is (.a 7) 0) (.ne (.a 7) 0) (by kernel_rfl) (by kernel_rfl) h
  (fun h => argJ280 val h)
  (fun h => argJ281 val h))
  (fun h => argJ282 val h))
  (fun h => by_way (.eq (.a 5) (.c 5)) (.is (.a 5) 5) (.ne (.a 5) 5) (by kernel_rfl) (by kernel_rfl) h
  (fun h => by_way (.le (.c 0) (.a 6)) (.ge (.a 6) 0) (.le (.a 6) (-1)) (by kernel_rfl) (by kernel_rfl) h
  (fun h => by_way (.lt (.a 6) (.c 16)) (.le (.a 6) 15) (.ge (.a 6) 16) (by kernel_rfl) (by kernel_rfl) h
  (fun h => by_way (.eq (.a 7) (.c 1)) (.is (.a 7) 1) (.ne (.a 7) 1) (by kernel_rfl) (by kernel_rfl) h
  (fun h => argJ283 val h)
  (fun h => by_way (.eq (.a 7) (.c 2)) (.is (.a 7) 2) (.ne (.a 7) 2) (by kernel_rfl) (by kernel_rfl) h
  (fun h => argJ284 val h)
  (fun h => by_way (.eq (.a 7) (.c 4)) (.is (.a 7) 4) (.ne (.a 7) 4) (by kernel_rfl) (by kernel_rfl) h
  (fun h => argJ285 val h)
  (fun h => by_way (.eq (.a 7) (.c 8)) (.is (.a 7) 8) (.ne (.a 7) 8) (by kernel_rfl) (by kernel_rfl) h
  (fun h => argJ286 val h)
  (fun h => argJ287 val h)))))
  (fun h => argJ288 val h))
  (fun h => argJ289 val h))
  (fun h => argJ290 val h)))
  (fun h => argJ291 val h))
  (fun h => argJSub54 val h)

theorem argJSub50 (val : Nat → Int) (h : Holds val [.is (.a 9) 16, .ne (.a 9) 8, .ne (.a 9) 4, .ne (.a 9) 2, .ne (.a 9) 1, .ne (.a 9) 0, .le (.a 8) 2147483647, .ge (.a 8) (-2147483648), .is (.a 0) 2, .ne (.a 0) 1]) : ArgJ val :=
  by_way (.eq (.a 3) (.c 0)) (.is (.a 3) 0) (.ne (.a 3) 0) (by kernel_rfl) (by kernel_rfl) h
  (fun h => argJSub51 val h)
  (fun h => argJSub53 val h)

theorem argJSub62 (val : Nat → Int) (h : Holds val [.is (.a 4) 0, .is (.a 3) 0, .is (.a 9) 32, .ne (.a 9) 16, .ne (.a 9) 8, .ne (.a 9) 4, .ne (.a 9) 2, .ne (.a 9) 1, .ne (.a 9) 0, .le (.a 8) 2147483647, .ge (.a 8) (-2147483648), .is (.a 0) 2, .ne (.a 0) 1]) : ArgJ val :=
  by_way (.eq (.a 5) (.c 0)) (.is (.a 5) 0) (.ne (.a 5) 0) (by kernel_rfl) (by kernel_rfl) h
  (fun h => by_way (.eq (.a 6) (.c 0)) (.is (.a 6) 0) (.ne (.a 6) 0) (by kernel_rfl) (by kernel_rfl) h
  (fun h => by_way (.eq (.a 7) (.c 0)) (.is (.a 7) 0) (.ne (.a 7) 0) (by kernel_rfl) (by kernel_rfl) h
  (fun h => argJ311 val h)
  (fun h => argJ312 val h))
  (fun h => argJ313 val h))
  (fun h => by_way (.eq (.a 5) (.c 5)) (.is (.a 5) 5) (.ne (.a 5) 5) (by kernel_rfl) (by kernel_rfl) h
  (fun h => by_way (.le (.c 0) (.a 6)) (.ge (.a 6) 0) (.le (.a 6) (-1)) (by kernel_rfl) (by kernel_rfl) h
  (fun h => by_way (.lt (.a 6) (.c 16)) (.le (.a 6) 15) (.ge (.a 6) 16) (by kernel_rfl) (by kernel_rfl) h
  (fun h => by_way (.eq (.a 7) (.c 1)) (.is (.a 7) 1) (.ne (.a 7) 1) (by kernel_rfl) (by kernel_rfl) h
  (fun h => by_way (.eq (.a 6) (.c 4)) (.is (.a 6) 4) (.ne (.a 6) 4) (by kernel_rfl) (by kernel_rfl) h
  (fun h => argJ314 val h)
  (fun h => argJ315 val h))
  (fun h => by_way (.eq (.a 7) (.c 2)) (.is (.a 7) 2) (.ne (.a 7) 2) (by kernel_rfl) (by kernel_rfl) h
  (fun h => by_way (.eq (.a 6) (.c 4)) (.is (.a 6) 4) (.ne (.a 6) 4) (by kernel_rfl) (by kernel_rfl) h
  (fun h => argJ316 val h)
  (fun h => argJ317 val h))
  (fun h => by_way (.eq (.a 7) (.c 4)) (.is (.a 7) 4) (.ne (.a 7) 4) (by kernel_rfl) (by kernel_rfl) h
  (fun h => by_way (.eq (.a 6) (.c 4)) (.is (.a 6) 4) (.ne (.a 6) 4) (by kernel_rfl) (by kernel_rfl) h
  (fun h => argJ318 val h)
  (fun h => argJ319 val h))
  (fun h => by_way (.eq (.a 7) (.c 8)) (.is (.a 7) 8) (.ne (.a 7) 8) (by kernel_rfl) (by kernel_rfl) h
  (fun h => by_way (.eq (.a 6) (.c 4)) (.is (.a 6) 4) (.ne (.a 6) 4) (by kernel_rfl) (by kernel_rfl) h
  (fun h => argJ320 val h)
  (fun h => argJ321 val h))
  (fun h => argJ322 val h)))))
  (fun h => argJ323 val h))
  (fun h => argJ324 val h))
  (fun h => argJ325 val h))

theorem argJSub61 (val : Nat → Int) (h : Holds val [.is (.a 3) 0, .is (.a 9) 32, .ne (.a 9) 16, .ne (.a 9) 8, .ne (.a 9) 4, .ne (.a 9) 2, .ne (.a 9) 1, .ne (.a 9) 0, .le (.a 8) 2147483647, .ge (.a 8) (-2147483648), .is (.a 0) 2, .ne (.a 0) 1]) : ArgJ val :=
  by_way (.eq (.a 4) (.c 0)) (.is (.a 4) 0) (.ne (.a 4) 0) (by kernel_rfl) (by kernel_rfl) h
  (fun h => argJSub62 val h)
  (fun h => argJ326 val h)

theorem argJSub68 (val : Nat → Int) (h : Holds val [.ne (.a 5) 0, .le (.a 4) 15, .ge (.a 4) 0, .is (.a 3) 5, .ne (.a 3) 8, .ne (.a 3) 0, .is (.a 9) 32, .ne (.a 9) 16, .ne (.a 9) 8, .ne (.a 9) 4, .ne (.a 9) 2, .ne (.a 9) 1, .ne (.a 9) 0, .le (.a 8) 2147483647, .ge (.a 8) (-2147483648), .is (.a 0) 2, .ne (.a 0) 1]) : ArgJ val :=
  by_way (.eq (.a 5) (.c 5)) (.is (.a 5) 5) (.ne (.a 5) 5) (by kernel_rfl) (by kernel_rfl) h
  (fun h => by_way (.le (.c 0) (.a 6)) (.ge (.a 6) 0) (.le (.a 6) (-1)) (by kernel_rfl) (by kernel_rfl) h
  (fun h => by_way (.lt (.a 6) (.c 16)) (.le (.a 6) 15) (.ge (.a 6) 16) (by kernel_rfl) (by kernel_rfl) h
  (fun h => by_way (.eq (.a 7) (.c 1)) (.is (.a 7) 1) (.ne (.a 7) 1) (by kernel_rfl) (by kernel_rfl) h
  (fun h => by_way (.eq (.a 6) (.c 4)) (.is (.a 6) 4) (.ne (.a 6) 4) (by kernel_rfl) (by kernel_rfl) h
  (fun h => by_way (.eq (.a 4) (.c 4)) (.is (.a 4) 4) (.ne (.a 4) 4) (by kernel_rfl) (by kernel_rfl) h
  (fun h => argJ342 val h)
  (fun h => argJ343 val h))
  (fun h => argJ344 val h))
  (fun h => by_way (.eq (.a 7) (.c 2)) (.is (.a 7) 2) (.ne (.a 7) 2) (by kernel_rfl) (by kernel_rfl) h
  (fun h => by_way (.eq (.a 6) (.c 4)) (.is (.a 6) 4) (.ne (.a 6) 4) (by kernel_rfl) (by kernel_rfl) h
  (fun h => argJ345 val h)
  (fun h => argJ346 val h))
  (fun h => by_way (.eq (.a 7) (.c 4)) (.is (.a 7) 4) (.ne (.a 7) 4) (by kernel_rfl) (by kernel_rfl) h
  (fun h => by_way (.eq (.a 6) (.c 4)) (.is (.a 6) 4) (.ne (.a 6) 4) (by kernel_rfl) (by kernel_rfl) h
  (fun h => argJ347 val h)
  (fun h => argJ348 val h))
  (fun h => by_way (.eq (.a 7) (.c 8)) (.is (.a 7) 8) (.ne (.a 7) 8) (by kernel_rfl) (by kernel_rfl) h
  (fun h => by_way (.eq (.a 6) (.c 4)) (.is (.a 6) 4) (.ne (.a 6) 4) (by kernel_rfl) (by kernel_rfl) h
  (fun h => argJ349 val h)
  (fun h => argJ350 val h))
  (fun h => argJ351 val h)))))
  (fun h => argJ352 val h))
  (fun h => argJ353 val h))
  (fun h => argJ354 val h)

theorem argJSub67 (val : Nat → Int) (h : Holds val [.le (.a 4) 15, .ge (.a 4) 0, .is (.a 3) 5, .ne (.a 3) 8, .ne (.a 3) 0, .is (.a 9) 32, .ne (.a 9) 16, .ne (.a 9) 8, .ne (.a 9) 4, .ne (.a 9) 2, .ne (.a 9) 1, .ne (.a 9) 0, .le (.a 8) 2147483647, .ge (.a 8) (-2147483648), .is (.a 0) 2, .ne (.a 0) 1]) : ArgJ val :=
  by_way (.eq (.a 5) (.c 0)) (.is (.a 5) 0) (.ne (.a 5) 0) (by kernel_rfl) (by kernel_rfl) h
  (fun h => by_way (.eq (.a 6) (.c 0)) (.is (.a 6) 0) (.ne (.a 6) 0) (by kernel_rfl) (by kernel_rfl) h
  (fun h => by_way (.eq (.a 7) (.c 0)) (.is (.a 7) 0) (.ne (.a 7) 0) (by kernel_rfl) (by kernel_rfl) h
  (fun h => argJ339 val h)
  (fun h => argJ340 val h))
  (fun h => argJ341 val h))
  (fun h => argJSub68 val h)

theorem argJSub66 (val : Nat → Int) (h : Holds val [.ge (.a 4) 0, .is (.a 3) 5, .ne (.a 3) 8, .ne (.a 3) 0, .is (.a 9) 32, .ne (.a 9) 16, .ne (.a 9) 8, .ne (.a 9) 4, .ne (.a 9) 2, .ne (.a 9) 1, .ne (.a 9) 0, .le (.a 8) 2147483647, .ge (.a 8) (-2147483648), .is (.a 0) 2, .ne (.a 0) 1]) : ArgJ val :=
  by_way (.lt (.a 4) (.c 16)) (.le (.a 4) 15) (.ge (.a 4) 16) (by kernel_rfl) (by kernel_rfl) h
  (fun h => argJSub67 val h)
  (fun h => argJ355 val h)

theorem argJSub65 (val : Nat → Int) (h : Holds val [.is (.a 3) 5, .ne (.a 3) 8, .ne (.a 3) 0, .is (.a 9) 32, .ne (.a 9) 16, .ne (.a 9) 8, .ne (.a 9) 4, .ne (.a 9) 2, .ne (.a 9) 1, .ne (.a 9) 0, .le (.a 8) 2147483647, .ge (.a 8) (-2147483648), .is (.a 0) 2, .ne (.a 0) 1]) : ArgJ val :=
  by_way (.le (.c 0) (.a 4)) (.ge (.a 4) 0) (.le (.a 4) (-1)) (by kernel_rfl) (by kernel_rfl) h
  (fun h => argJSub66 val h)
  (fun h => argJ356 val h)

theorem argJSub64 (val : Nat → Int) (h : Holds val [.ne (.a 3) 8, .ne (.a 3) 0, .is (.a 9) 32, .ne (.a 9) 16, .ne (.a 9) 8, .ne (.a 9) 4, .ne (.a 9) 2, .ne (.a 9) 1, .ne (.a 9) 0, .le (.a 8) 2147483647, .ge (.a 8) (-2147483648), .is (.a 0) 2, .ne (.a 0) 1]) : ArgJ val :=
  by_way (.eq (.a 3) (.c 5)) (.is (.a 3) 5) (.ne (.a 3) 5) (by kernel_rfl) (by kernel_rfl) h
  (fun h => argJSub65 val h)
  (fun h => argJ357 val h)

theorem argJSub63 (val : Nat → Int) (h : Holds val [.ne (.a 3) 0, .is (.a 9) 32, .ne (.a 9) 16, .ne (.a 9) 8, .ne (.a 9) 4, .ne (.a 9) 2, .ne (.a 9) 1, .ne (.a 9) 0, .le (.a 8) 2147483647, .ge (.a 8) (-2147483648), .is (.a 0) 2, .ne (.a 0) 1]) : ArgJ val :=
  by_way (.eq (.a 3) (.c 8)) (.is (.a 3) 8) (.ne (.a 3) 8) (by kernel_rfl) (by kernel_rfl) h
  (fun h => by_way (.eq (.a 4) (.c 0)) (.is (.a 4) 0) (.ne (.a 4) 0) (by kernel_rfl) (by kernel_rfl) h
  (fun h => by_way (.eq (.a 5) (.c 0)) (.is (.a 5) 0) (.ne (.a 5) 0) (by kernel_rfl) (by kernel_rfl) h
  (fun h => by_way (.eq (.a 6) (.c 0)) (.is (.a 6) 0) (.ne (.a 6) 0) (by kernel_rfl) (by kernel_rfl) h
  (fun h => by_way (.eq (.a 7) (.c 0)) (.is (.a 7) 0) (.ne (.a 7) 0) (by kernel_rfl) (by kernel_rfl) h
  (fun h => argJ327 val h)
  (fun h => argJ328 val h))
  (fun h => argJ329 val h))
  (fun h => by_way (.eq (.a 5) (.c 5)) (.is (.a 5) 5) (.ne (.a 5) 5) (by kernel_rfl) (by kernel_rfl) h
  (fun h => by_way (.le (.c 0) (.a 6)) (.ge (.a 6) 0) (.le (.a 6) (-1)) (by kernel_rfl) (by kernel_rfl) h
  (fun h => by_way (.lt (.a 6) (.c 16)) (.le (.a 6) 15) (.ge (.a 6) 16) (by kernel_rfl) (by kernel_rfl) h
  (fun h => by_way (.eq (.a 7) (.c 1)) (.is (.a 7) 1) (.ne (.a 7) 1) (by kernel_rfl) (by kernel_rfl) h
  (fun h => argJ330 val h)
  (fun h => by_way (.eq (.a 7) (.c 2)) (.is (.a 7) 2) (.ne (.a 7) 2) (by kernel_rfl) (by kernel_rfl) h
  (fun h => argJ331 val h)
  (fun h => by_way (.eq (.a 7) (.c 4)) (.is (.a 7) 4) (.ne (.a 7) 4) (by kernel_rfl) (by kernel_rfl) h
  (fun h => argJ332 val h)
  (fun h => by_way (.eq (.a 7) (.c 8)) (.is (.a 7) 8) (.ne (.a 7) 8) (by kernel_rfl) (by kernel_rfl) h
  (fun h => argJ333 val h)
  (fun h => argJ334 val h)))))
  (fun h => argJ335 val h))
  (fun h => argJ336 val h))
  (fun h => argJ337 val h)))
  (fun h => argJ338 val h))
  (fun h => argJSub64 val h)

theorem argJSub60 (val : Nat → Int) (h : Holds val [.is (.a 9) 32, .ne (.a 9) 16, .ne (.a 9) 8, .ne (.a 9) 4, .ne (.a 9) 2, .ne (.a 9) 1, .ne (.a 9) 0, .le (.a 8) 2147483647, .ge (.a 8) (-2147483648), .is (.a 0) 2, .ne (.a 0) 1]) : ArgJ val :=
  by_way (.eq (.a 3) (.c 0)) (.is (.a 3) 0) (.ne (.a 3) 0) (by kernel_rfl) (by kernel_rfl) h
  (fun h => argJSub61 val h)
  (fun h => argJSub63 val h)

theorem argJSub59 (val : Nat → Int) (h : Holds val [.ne (.a 9) 16, .ne (.a 9) 8, .ne (.a 9) 4, .ne (.a 9) 2, .ne (.a 9) 1, .ne (.a 9) 0, .le (.a 8) 2147483647, .ge (.a 8) (-2147483648), .is (.a 0) 2, .ne (.a 0) 1]) : ArgJ val :=
  by_way (.eq (.a 9) (.c 32)) (.is (.a 9) 32) (.ne (.a 9) 32) (by kernel_rfl) (by kernel_rfl) h
  (fun h => argJSub60 val h)
  (fun h => argJ358 val h)

theorem argJ (val : Nat → Int) : ArgJ val :=
  have h : Holds val [] := holds_nil
  by_way (.eq (.a 0) (.c 1)) (.is (.a 0) 1) (.ne (.a 0) 1) (by kernel_rfl) (by kernel_rfl) h
  (fun h => argJSub0 val h)
  (fun h => by_way (.eq (.a 0) (.c 2)) (.is (.a 0) 2) (.ne (.a 0) 2) (by kernel_rfl) (by kernel_rfl) h
  (fun h => by_way (.lt (.a 8) (.c (-2147483648))) (.le (.a 8) (-2147483649)) (.ge (.a 8) (-2147483648)) (by kernel_rfl) (by kernel_rfl) h
  (fun h => argJ27 val h)
  (fun h => by_way (.lt (.c 2147483647) (.a 8)) (.ge (.a 8) 2147483648) (.le (.a 8) 2147483647) (by kernel_rfl) (by kernel_rfl) h
  (fun h => argJ28 val h)
  (fun h => by_way (.eq (.a 9) (.c 0)) (.is (.a 9) 0) (.ne (.a 9) 0) (by kernel_rfl) (by kernel_rfl) h
  (fun h => argJSub5 val h)
  (fun h => by_way (.eq (.a 9) (.c 1)) (.is (.a 9) 1) (.ne (.a 9) 1) (by kernel_rfl) (by kernel_rfl) h
  (fun h => argJSub14 val h)
  (fun h => by_way (.eq (.a 9) (.c 2)) (.is (.a 9) 2) (.ne (.a 9) 2) (by kernel_rfl) (by kernel_rfl) h
  (fun h => argJSub23 val h)
  (fun h => by_way (.eq (.a 9) (.c 4)) (.is (.a 9) 4) (.ne (.a 9) 4) (by kernel_rfl) (by kernel_rfl) h
  (fun h => argJSub32 val h)
  (fun h => by_way (.eq (.a 9) (.c 8)) (.is (.a 9) 8) (.ne (.a 9) 8) (by kernel_rfl) (by kernel_rfl) h
  (fun h => argJSub41 val h)
  (fun h => by_way (.eq (.a 9) (.c 16)) (.is (.a 9) 16) (.ne (.a 9) 16) (by kernel_rfl) (by kernel_rfl) h
  (fun h => argJSub50 val h)
  (fun h => argJSub59 val h)))))))))
  (fun h => by_way (.eq (.a 0) (.c 3)) (.is (.a 0) 3) (.ne (.a 0) 3) (by kernel_rfl) (by kernel_rfl) h
  (fun h => argJ359 val h)
  (fun h => by_way (.eq (.a 0) (.c 4)) (.is (.a 0) 4) (.ne (.a 0) 4) (by kernel_rfl) (by kernel_rfl) h
  (fun h => by_way (.lt (.a 10) (.c (-2147483648))) (.le (.a 10) (-2147483649)) (.ge (.a 10) (-2147483648)) (by kernel_rfl) (by kernel_rfl) h
  (fun h => argJ360 val h)
  (fun h => by_way (.lt (.c 2147483647) (.a 10)) (.ge (.a 10) 2147483648) (.le (.a 10) 2147483647) (by kernel_rfl) (by kernel_rfl) h
  (fun h => argJ361 val h)
  (fun h => argJ362 val h)))
  (fun h => argJ363 val h))))

end Go.Proofs.Ytclhjdddakmafaa.Tab
