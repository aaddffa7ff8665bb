/-
  All ways together.
-/
import Derived.Test.YtclhjdddakmafaaCanonQ0
import Derived.Test.YtclhjdddakmafaaCanonQ1
import Derived.Test.YtclhjdddakmafaaCanonQ2
namespace Go.Proofs.Ytclhjdddakmafaa.Tab
open Go.Sim
set_option maxRecDepth 100000

theorem canonQSub4 (val : Nat → Int) (h : Holds val [.ne (.a 1) 3, .ne (.a 1) 1, .ne (.a 1) 8, .ne (.a 1) 2, .is (.a 0) 1]) : CanonQ val :=
  by_way (.eq (.a 1) (.c 4)) (.is (.a 1) 4) (.ne (.a 1) 4) (by kernel_rfl) (by kernel_rfl) h
  (fun h => by_way (.le (.c 0) (.a 2)) (.ge (.a 2) 0) (.le (.a 2) (-1)) (by kernel_rfl) (by kernel_rfl) h
  (fun h => by_way (.lt (.a 2) (.c 16)) (.le (.a 2) 15) (.ge (.a 2) 16) (by kernel_rfl) (by kernel_rfl) h
  (fun h => canonQ12 val h)
  (fun h => canonQ13 val h))
  (fun h => canonQ14 val h))
  (fun h => by_way (.eq (.a 1) (.c 5)) (.is (.a 1) 5) (.ne (.a 1) 5) (by kernel_rfl) (by kernel_rfl) h
  (fun h => by_way (.le (.c 0) (.a 2)) (.ge (.a 2) 0) (.le (.a 2) (-1)) (by kernel_rfl) (by kernel_rfl) h
  (fun h => by_way (.lt (.a 2) (.c 16)) (.le (.a 2) 15) (.ge (.a 2) 16) (by kernel_rfl) (by kernel_rfl) h
  (fun h => canonQ15 val h)
  (fun h => canonQ16 val h))
  (fun h => canonQ17 val h))
  (fun h => by_way (.eq (.a 1) (.c 6)) (.is (.a 1) 6) (.ne (.a 1) 6) (by kernel_rfl) (by kernel_rfl) h
  (fun h => by_way (.le (.c 0) (.a 2)) (.ge (.a 2) 0) (.le (.a 2) (-1)) (by kernel_rfl) (by kernel_rfl) h
  (fun h => by_way (.lt (.a 2) (.c 16)) (.le (.a 2) 15) (.ge (.a 2) 16) (by kernel_rfl) (by kernel_rfl) h
  (fun h => canonQ18 val h)
  (fun h => canonQ19 val h))
  (fun h => canonQ20 val h))
  (fun h => by_way (.eq (.a 1) (.c 7)) (.is (.a 1) 7) (.ne (.a 1) 7) (by kernel_rfl) (by kernel_rfl) h
  (fun h => by_way (.le (.c 0) (.a 2)) (.ge (.a 2) 0) (.le (.a 2) (-1)) (by kernel_rfl) (by kernel_rfl) h
  (fun h => by_way (.lt (.a 2) (.c 16)) (.le (.a 2) 15) (.ge (.a 2) 16) (by kernel_rfl) (by kernel_rfl) h
  (fun h => canonQ21 val h)
  (fun h => canonQ22 val h))
  (fun h => canonQ23 val h))
  (fun h => by_way (.le (.c 0) (.a 2)) (.ge (.a 2) 0) (.le (.a 2) (-1)) (by kernel_rfl) (by kernel_rfl) h
  (fun h => canonQ24 val h)
  (fun h => canonQ25 val h)))))

theorem canonQSub3 (val : Nat → Int) (h : Holds val [.ne (.a 1) 1, .ne (.a 1) 8, .ne (.a 1) 2, .is (.a 0) 1]) : CanonQ val :=
  by_way (.eq (.a 1) (.c 3)) (.is (.a 1) 3) (.ne (.a 1) 3) (by kernel_rfl) (by kernel_rfl) h
  (fun h => by_way (.le (.c 0) (.a 2)) (.ge (.a 2) 0) (.le (.a 2) (-1)) (by kernel_rfl) (by kernel_rfl) h
  (fun h => by_way (.lt (.a 2) (.c 16)) (.le (.a 2) 15) (.ge (.a 2) 16) (by kernel_rfl) (by kernel_rfl) h
  (fun h => canonQ9 val h)
  (fun h => canonQ10 val h))
  (fun h => canonQ11 val h))
  (fun h => canonQSub4 val h)

theorem canonQSub2 (val : Nat → Int) (h : Holds val [.ne (.a 1) 8, .ne (.a 1) 2, .is (.a 0) 1]) : CanonQ val :=
  by_way (.eq (.a 1) (.c 1)) (.is (.a 1) 1) (.ne (.a 1) 1) (by kernel_rfl) (by kernel_rfl) h
  (fun h => by_way (.le (.c 0) (.a 2)) (.ge (.a 2) 0) (.le (.a 2) (-1)) (by kernel_rfl) (by kernel_rfl) h
  (fun h => by_way (.lt (.a 2) (.c 16)) (.le (.a 2) 15) (.ge (.a 2) 16) (by kernel_rfl) (by kernel_rfl) h
  (fun h => canonQ6 val h)
  (fun h => canonQ7 val h))
  (fun h => canonQ8 val h))
  (fun h => canonQSub3 val h)

theorem canonQSub1 (val : Nat → Int) (h : Holds val [.ne (.a 1) 2, .is (.a 0) 1]) : CanonQ val :=
  by_way (.eq (.a 1) (.c 8)) (.is (.a 1) 8) (.ne (.a 1) 8) (by kernel_rfl) (by kernel_rfl) h
  (fun h => by_way (.le (.c 0) (.a 2)) (.ge (.a 2) 0) (.le (.a 2) (-1)) (by kernel_rfl) (by kernel_rfl) h
  (fun h => by_way (.lt (.a 2) (.c 1)) (.le (.a 2) 0) (.ge (.a 2) 1) (by kernel_rfl) (by kernel_rfl) h
  (fun h => canonQ3 val h)
  (fun h => canonQ4 val h))
  (fun h => canonQ5 val h))
  (fun h => canonQSub2 val h)

theorem canonQSub0 (val : Nat → Int) (h : Holds val [.is (.a 0) 1]) : CanonQ val :=
  by_way (.eq (.a 1) (.c 2)) (.is (.a 1) 2) (.ne (.a 1) 2) (by kernel_rfl) (by kernel_rfl) h
  (fun h => by_way (.le (.c 4) (.a 2)) (.ge (.a 2) 4) (.le (.a 2) 3) (by kernel_rfl) (by kernel_rfl) h
  (fun h => by_way (.lt (.a 2) (.c 8)) (.le (.a 2) 7) (.ge (.a 2) 8) (by kernel_rfl) (by kernel_rfl) h
  (fun h => canonQ0 val h)
  (fun h => canonQ1 val h))
  (fun h => canonQ2 val h))
  (fun h => canonQSub1 val h)

theorem canonQSub7 (val : Nat → Int) (h : Holds val [.is (.a 4) 0, .is (.a 3) 0, .is (.a 9) 0, .le (.a 8) 2147483647, .ge (.a 8) (-2147483648), .is (.a 0) 2, .ne (.a 0) 1]) : CanonQ val :=
  by_way (.eq (.a 5) (.c 0)) (.is (.a 5) 0) (.ne (.a 5) 0) (by kernel_rfl) (by kernel_rfl) h
  (fun h => by_way (.eq (.a 6) (.c 0)) (.is (.a 6) 0) (.ne (.a 6) 0) (by kernel_rfl) (by kernel_rfl) h
  (fun h => by_way (.eq (.a 7) (.c 0)) (.is (.a 7) 0) (.ne (.a 7) 0) (by kernel_rfl) (by kernel_rfl) h
  (fun h => canonQ28 val h)
  (fun h => canonQ29 val h))
  (fun h => canonQ30 val h))
  (fun h => by_way (.eq (.a 5) (.c 5)) (.is (.a 5) 5) (.ne (.a 5) 5) (by kernel_rfl) (by kernel_rfl) h
  (fun h => by_way (.le (.c 0) (.a 6)) (.ge (.a 6) 0) (.le (.a 6) (-1)) (by kernel_rfl) (by kernel_rfl) h
  (fun h => by_way (.lt (.a 6) (.c 16)) (.le (.a 6) 15) (.ge (.a 6) 16) (by kernel_rfl) (by kernel_rfl) h
  (fun h => by_way (.eq (.a 7) (.c 1)) (.is (.a 7) 1) (.ne (.a 7) 1) (by kernel_rfl) (by kernel_rfl) h
  (fun h => by_way (.eq (.a 6) (.c 4)) (.is (.a 6) 4) (.ne (.a 6) 4) (by kernel_rfl) (by kernel_rfl) h
  (fun h => canonQ31 val h)
  (fun h => canonQ32 val h))
  (fun h => by_way (.eq (.a 7) (.c 2)) (.is (.a 7) 2) (.ne (.a 7) 2) (by kernel_rfl) (by kernel_rfl) h
  (fun h => by_way (.eq (.a 6) (.c 4)) (.is (.a 6) 4) (.ne (.a 6) 4) (by kernel_rfl) (by kernel_rfl) h
  (fun h => canonQ33 val h)
  (fun h => canonQ34 val h))
  (fun h => by_way (.eq (.a 7) (.c 4)) (.is (.a 7) 4) (.ne (.a 7) 4) (by kernel_rfl) (by kernel_rfl) h
  (fun h => by_way (.eq (.a 6) (.c 4)) (.is (.a 6) 4) (.ne (.a 6) 4) (by kernel_rfl) (by kernel_rfl) h
  (fun h => canonQ35 val h)
  (fun h => canonQ36 val h))
  (fun h => by_way (.eq (.a 7) (.c 8)) (.is (.a 7) 8) (.ne (.a 7) 8) (by kernel_rfl) (by kernel_rfl) h
  (fun h => by_way (.eq (.a 6) (.c 4)) (.is (.a 6) 4) (.ne (.a 6) 4) (by kernel_rfl) (by kernel_rfl) h
  (fun h => canonQ37 val h)
  (fun h => canonQ38 val h))
  (fun h => canonQ39 val h)))))
  (fun h => canonQ40 val h))
  (fun h => canonQ41 val h))
  (fun h => canonQ42 val h))

theorem canonQSub6 (val : Nat → Int) (h : Holds val [.is (.a 3) 0, .is (.a 9) 0, .le (.a 8) 2147483647, .ge (.a 8) (-2147483648), .is (.a 0) 2, .ne (.a 0) 1]) : CanonQ val :=
  by_way (.eq (.a 4) (.c 0)) (.is (.a 4) 0) (.ne (.a 4) 0) (by kernel_rfl) (by kernel_rfl) h
  (fun h => canonQSub7 val h)
  (fun h => canonQ43 val h)

theorem canonQSub13 (val : Nat → Int) (h : Holds val [.ne (.a 5) 0, .le (.a 4) 15, .ge (.a 4) 0, .is (.a 3) 5, .ne (.a 3) 8, .ne (.a 3) 0, .is (.a 9) 0, .le (.a 8) 2147483647, .ge (.a 8) (-2147483648), .is (.a 0) 2, .ne (.a 0) 1]) : CanonQ val :=
  by_way (.eq (.a 5) (.c 5)) (.is (.a 5) 5) (.ne (.a 5) 5) (by kernel_rfl) (by kernel_rfl) h
  (fun h => by_way (.le (.c 0) (.a 6)) (.ge (.a 6) 0) (.le (.a 6) (-1)) (by kernel_rfl) (by kernel_rfl) h
  (fun h => by_way (.lt (.a 6) (.c 16)) (.le (.a 6) 15) (.ge (.a 6) 16) (by kernel_rfl) (by kernel_rfl) h
  (fun h => by_way (.eq (.a 7) (.c 1)) (.is (.a 7) 1) (.ne (.a 7) 1) (by kernel_rfl) (by kernel_rfl) h
  (fun h => by_way (.eq (.a 6) (.c 4)) (.is (.a 6) 4) (.ne (.a 6) 4) (by kernel_rfl) (by kernel_rfl) h
  (fun h => by_way (.eq (.a 4) (.c 4)) (.is (.a 4) 4) (.ne (.a 4) 4) (by kernel_rfl) (by kernel_rfl) h
  (fun h => canonQ59 val h)
  (fun h => canonQ60 val h))
  (fun h => canonQ61 val h))
  (fun h => by_way (.eq (.a 7) (.c 2)) (.is (.a 7) 2) (.ne (.a 7) 2) (by kernel_rfl) (by kernel_rfl) h
  (fun h => by_way (.eq (.a 6) (.c 4)) (.is (.a 6) 4) (.ne (.a 6) 4) (by kernel_rfl) (by kernel_rfl) h
  (fun h => canonQ62 val h)
  (fun h => canonQ63 val h))
  (fun h => by_way (.eq (.a 7) (.c 4)) (.is (.a 7) 4) (.ne (.a 7) 4) (by kernel_rfl) (by kernel_rfl) h
  (fun h => by_way (.eq (.a 6) (.c 4)) (.is (.a 6) 4) (.ne (.a 6) 4) (by kernel_rfl) (by kernel_rfl) h
  (fun h => canonQ64 val h)
  (fun h => canonQ65 val h))
  (fun h => by_way (.eq (.a 7) (.c 8)) (.is (.a 7) 8) (.ne (.a 7) 8) (by kernel_rfl) (by kernel_rfl) h
  (fun h => by_way (.eq (.a 6) (.c 4)) (.is (.a 6) 4) (.ne (.a 6) 4) (by kernel_rfl) (by kernel_rfl) h
  (fun h => canonQ66 val h)
  (fun h => canonQ67 val h))
  (fun h => canonQ68 val h)))))
  (fun h => canonQ69 val h))
  (fun h => canonQ70 val h))
  (fun h => canonQ71 val h)

theorem canonQSub12 (val : Nat → Int) (h : Holds val [.le (.a 4) 15, .ge (.a 4) 0, .is (.a 3) 5, .ne (.a 3) 8, .ne (.a 3) 0, .is (.a 9) 0, .le (.a 8) 2147483647, .ge (.a 8) (-2147483648), .is (.a 0) 2, .ne (.a 0) 1]) : CanonQ val :=
  by_way (.eq (.a 5) (.c 0)) (.is (.a 5) 0) (.ne (.a 5) 0) (by kernel_rfl) (by kernel_rfl) h
  (fun h => by_way (.eq (.a 6) (.c 0)) (.is (.a 6) 0) (.ne (.a 6) 0) (by kernel_rfl) (by kernel_rfl) h
  (fun h => by_way (.eq (.a 7) (.c 0)) (.is (.a 7) 0) (.ne (.a 7) 0) (by kernel_rfl) (by kernel_rfl) h
  (fun h => canonQ56 val h)
  (fun h => canonQ57 val h))
  (fun h => canonQ58 val h))
  (fun h => canonQSub13 val h)

theorem canonQSub11 (val : Nat → Int) (h : Holds val [.ge (.a 4) 0, .is (.a 3) 5, .ne (.a 3) 8, .ne (.a 3) 0, .is (.a 9) 0, .le (.a 8) 2147483647, .ge (.a 8) (-2147483648), .is (.a 0) 2, .ne (.a 0) 1]) : CanonQ val :=
  by_way (.lt (.a 4) (.c 16)) (.le (.a 4) 15) (.ge (.a 4) 16) (by kernel_rfl) (by kernel_rfl) h
  (fun h => canonQSub12 val h)
  (fun h => canonQ72 val h)

theorem canonQSub10 (val : Nat → Int) (h : Holds val [.is (.a 3) 5, .ne (.a 3) 8, .ne (.a 3) 0, .is (.a 9) 0, .le (.a 8) 2147483647, .ge (.a 8) (-2147483648), .is (.a 0) 2, .ne (.a 0) 1]) : CanonQ val :=
  by_way (.le (.c 0) (.a 4)) (.ge (.a 4) 0) (.le (.a 4) (-1)) (by kernel_rfl) (by kernel_rfl) h
  (fun h => canonQSub11 val h)
  (fun h => canonQ73 val h)

theorem canonQSub9 (val : Nat → Int) (h : Holds val [.ne (.a 3) 8, .ne (.a 3) 0, .is (.a 9) 0, .le (.a 8) 2147483647, .ge (.a 8) (-2147483648), .is (.a 0) 2, .ne (.a 0) 1]) : CanonQ val :=
  by_way (.eq (.a 3) (.c 5)) (.is (.a 3) 5) (.ne (.a 3) 5) (by kernel_rfl) (by kernel_rfl) h
  (fun h => canonQSub10 val h)
  (fun h => canonQ74 val h)

theorem canonQSub8 (val : Nat → Int) (h : Holds val [.ne (.a 3) 0, .is (.a 9) 0, .le (.a 8) 2147483647, .ge (.a 8) (-2147483648), .is (.a 0) 2, .ne (.a 0) 1]) : CanonQ val :=
  by_way (.eq (.a 3) (.c 8)) (.is (.a 3) 8) (.ne (.a 3) 8) (by kernel_rfl) (by kernel_rfl) h
  (fun h => by_way (.eq (.a 4) (.c 0)) (.is (.a 4) 0) (.ne (.a 4) 0) (by kernel_rfl) (by kernel_rfl) h
  (fun h => by_way (.eq (.a 5) (.c 0)) (.is (.a 5) 0) (.ne (.a 5) 0) (by kernel_rfl) (by kernel_rfl) h
  (fun h => by_way (.eq (.a 6) (.c 0)) (.is (.a 6) 0) (.ne (.a 6) 0) (by kernel_rfl) (by kernel_rfl) h
  (fun h => by_way (.eq (.a 7) (.c 0)) (.is (.a 7) 0) (.ne (.a 7) 0) (by kernel_rfl) (by kernel_rfl) h
  (fun h => canonQ44 val h)
  (fun h => canonQ45 val h))
  (fun h => canonQ46 val h))
  (fun h => by_way (.eq (.a 5) (.c 5)) (.is (.a 5) 5) (.ne (.a 5) 5) (by kernel_rfl) (by kernel_rfl) h
  (fun h => by_way (.le (.c 0) (.a 6)) (.ge (.a 6) 0) (.le (.a 6) (-1)) (by kernel_rfl) (by kernel_rfl) h
  (fun h => by_way (.lt (.a 6) (.c 16)) (.le (.a 6) 15) (.ge (.a 6) 16) (by kernel_rfl) (by kernel_rfl) h
  (fun h => by_way (.eq (.a 7) (.c 1)) (.is (.a 7) 1) (.ne (.a 7) 1) (by kernel_rfl) (by kernel_rfl) h
  (fun h => canonQ47 val h)
  (fun h => by_way (.eq (.a 7) (.c 2)) (.is (.a 7) 2) (.ne (.a 7) 2) (by kernel_rfl) (by kernel_rfl) h
  (fun h => canonQ48 val h)
  (fun h => by_way (.eq (.a 7) (.c 4)) (.is (.a 7) 4) (.ne (.a 7) 4) (by kernel_rfl) (by kernel_rfl) h
  (fun h => canonQ49 val h)
  (fun h => by_way (.eq (.a 7) (.c 8)) (.is (.a 7) 8) (.ne (.a 7) 8) (by kernel_rfl) (by kernel_rfl) h
  (fun h => canonQ50 val h)
  (fun h => canonQ51 val h)))))
  (fun h => canonQ52 val h))
  (fun h => canonQ53 val h))
  (fun h => canonQ54 val h)))
  (fun h => canonQ55 val h))
  (fun h => canonQSub9 val h)

theorem canonQSub5 (val : Nat → Int) (h : Holds val [.is (.a 9) 0, .le (.a 8) 2147483647, .ge (.a 8) (-2147483648), .is (.a 0) 2, .ne (.a 0) 1]) : CanonQ val :=
  by_way (.eq (.a 3) (.c 0)) (.is (.a 3) 0) (.ne (.a 3) 0) (by kernel_rfl) (by kernel_rfl) h
  (fun h => canonQSub6 val h)
  (fun h => canonQSub8 val h)

theorem canonQSub16 (val : Nat → Int) (h : Holds val [.is (.a 4) 0, .is (.a 3) 0, .is (.a 9) 1, .ne (.a 9) 0, .le (.a 8) 2147483647, .ge (.a 8) (-2147483648), .is (.a 0) 2, .ne (.a 0) 1]) : CanonQ val :=
  by_way (.eq (.a 5) (.c 0)) (.is (.a 5) 0) (.ne (.a 5) 0) (by kernel_rfl) (by kernel_rfl) h
  (fun h => by_way (.eq (.a 6) (.c 0)) (.is (.a 6) 0) (.ne (.a 6) 0) (by kernel_rfl) (by kernel_rfl) h
  (fun h => by_way (.eq (.a 7) (.c 0)) (.is (.a 7) 0) (.ne (.a 7) 0) (by kernel_rfl) (by kernel_rfl) h
  (fun h => canonQ75 val h)
  (fun h => canonQ76 val h))
  (fun h => canonQ77 val h))
  (fun h => by_way (.eq (.a 5) (.c 5)) (.is (.a 5) 5) (.ne (.a 5) 5) (by kernel_rfl) (by kernel_rfl) h
  (fun h => by_way (.le (.c 0) (.a 6)) (.ge (.a 6) 0) (.le (.a 6) (-1)) (by kernel_rfl) (by kernel_rfl) h
  (fun h => by_way (.lt (.a 6) (.c 16)) (.le (.a 6) 15) (.ge (.a 6) 16) (by kernel_rfl) (by kernel_rfl) h
  (fun h => by_way (.eq (.a 7) (.c 1)) (.is (.a 7) 1) (.ne (.a 7) 1) (by kernel_rfl) (by kernel_rfl) h
  (fun h => by_way (.eq (.a 6) (.c 4)) (.is (.a 6) 4) (.ne (.a 6) 4) (by kernel_rfl) (by kernel_rfl) h
  (fun h => canonQ78 val h)
  (fun h => canonQ79 val h))
  (fun h => by_way (.eq (.a 7) (.c 2)) (.is (.a 7) 2) (.ne (.a 7) 2) (by kernel_rfl) (by kernel_rfl) h
  (fun h => by_way (.eq (.a 6) (.c 4)) (.is (.a 6) 4) (.ne (.a 6) 4) (by kernel_rfl) (by kernel_rfl) h
  (fun h => canonQ80 val h)
  (fun h => canonQ81 val h))
  (fun h => by_way (.eq (.a 7) (.c 4)) (.is (.a 7) 4) (.ne (.a 7) 4) (by kernel_rfl) (by kernel_rfl) h
  (fun h => by_way (.eq (.a 6) (.c 4)) (.is (.a 6) 4) (.ne (.a 6) 4) (by kernel_rfl) (by kernel_rfl) h
  (fun h => canonQ82 val h)
  (fun h => canonQ83 val h))
  (fun h => by_way (.eq (.a 7) (.c 8)) (.is (.a 7) 8) (.ne (.a 7) 8) (by kernel_rfl) (by kernel_rfl) h
  (fun h => by_way (.eq (.a 6) (.c 4)) (.is (.a 6) 4) (.ne (.a 6) 4) (by kernel_rfl) (by kernel_rfl) h
  (fun h => canonQ84 val h)
  (fun h => canonQ85 val h))
  (fun h => canonQ86 val h)))))
  (fun h => canonQ87 val h))
  (fun h => canonQ88 val h))
  (fun h => canonQ89 val h))

theorem canonQSub15 (val : Nat → Int) (h : Holds val [.is (.a 3) 0, .is (.a 9) 1, .ne (.a 9) 0, .le (.a 8) 2147483647, .ge (.a 8) (-2147483648), .is (.a 0) 2, .ne (.a 0) 1]) : CanonQ val :=
  by_way (.eq (.a 4) (.c 0)) (.is (.a 4) 0) (.ne (.a 4) 0) (by kernel_rfl) (by kernel_rfl) h
  (fun h => canonQSub16 val h)
  (fun h => canonQ90 val h)

theorem canonQSub22 (val : Nat → Int) (h : Holds val [.ne (.a 5) 0, .le (.a 4) 15, .ge (.a 4) 0, .is (.a 3) 5, .ne (.a 3) 8, .ne (.a 3) 0, .is (.a 9) 1, .ne (.a 9) 0, .le (.a 8) 2147483647, .ge (.a 8) (-2147483648), .is (.a 0) 2, .ne (.a 0) 1]) : CanonQ val :=
  by_way (.eq (.a 5) (.c 5)) (.is (.a 5) 5) (.ne (.a 5) 5) (by kernel_rfl) (by kernel_rfl) h
  (fun h => by_way (.le (.c 0) (.a 6)) (.ge (.a 6) 0) (.le (.a 6) (-1)) (by kernel_rfl) (by kernel_rfl) h
  (fun h => by_way (.lt (.a 6) (.c 16)) (.le (.a 6) 15) (.ge (.a 6) 16) (by kernel_rfl) (by kernel_rfl) h
  (fun h => by_way (.eq (.a 7) (.c 1)) (.is (.a 7) 1) (.ne (.a 7) 1) (by kernel_rfl) (by kernel_rfl) h
  (fun h => by_way (.eq (.a 6) (.c 4)) (.is (.a 6) 4) (.ne (.a 6) 4) (by kernel_rfl) (by kernel_rfl) h
  (fun h => by_way (.eq (.a 4) (.c 4)) (.is (.a 4) 4) (.ne (.a 4) 4) (by kernel_rfl) (by kernel_rfl) h
  (fun h => canonQ106 val h)
  (fun h => canonQ107 val h))
  (fun h => canonQ108 val h))
  (fun h => by_way (.eq (.a 7) (.c 2)) (.is (.a 7) 2) (.ne (.a 7) 2) (by kernel_rfl) (by kernel_rfl) h
  (fun h => by_way (.eq (.a 6) (.c 4)) (.is (.a 6) 4) (.ne (.a 6) 4) (by kernel_rfl) (by kernel_rfl) h
  (fun h => canonQ109 val h)
  (fun h => canonQ110 val h))
  (fun h => by_way (.eq (.a 7) (.c 4)) (.is (.a 7) 4) (.ne (.a 7) 4) (by kernel_rfl) (by kernel_rfl) h
  (fun h => by_way (.eq (.a 6) (.c 4)) (.is (.a 6) 4) (.ne (.a 6) 4) (by kernel_rfl) (by kernel_rfl) h
  (fun h => canonQ111 val h)
  (fun h => canonQ112 val h))
  (fun h => by_way (.eq (.a 7) (.c 8)) (.is (.a 7) 8) (.ne (.a 7) 8) (by kernel_rfl) (by kernel_rfl) h
  (fun h => by_way (.eq (.a 6) (.c 4)) (.is (.a 6) 4) (.ne (.a 6) 4) (by kernel_rfl) (by kernel_rfl) h
  (fun h => canonQ113 val h)
  (fun h => canonQ114 val h))
  (fun h => canonQ115 val h)))))
  (fun h => canonQ116 val h))
  (fun h => canonQ117 val h))
  (fun h => canonQ118 val h)

theorem canonQSub21 (val : Nat → Int) (h : Holds val [.le (.a 4) 15, .ge (.a 4) 0, .is (.a 3) 5, .ne (.a 3) 8, .ne (.a 3) 0, .is (.a 9) 1, .ne (.a 9) 0, .le (.a 8) 2147483647, .ge (.a 8) (-2147483648), .is (.a 0) 2, .ne (.a 0) 1]) : CanonQ val :=
  by_way (.eq (.a 5) (.c 0)) (.is (.a 5) 0) (.ne (.a 5) 0) (by kernel_rfl) (by kernel_rfl) h
  (fun h => by_way (.eq (.a 6) (.c 0)) (.is (.a 6) 0) (.ne (.a 6) 0) (by kernel_rfl) (by kernel_rfl) h
  (fun h => by_way (.eq (.a 7) (.c 0)) (.is (.a 7) 0) (.ne (.a 7) 0) (by kernel_rfl) (by kernel_rfl) h
  (fun h => canonQ103 val h)
  (fun h => canonQ104 val h))
  (fun h => canonQ105 val h))
  (fun h => canonQSub22 val h)

theorem canonQSub20 (val : Nat → Int) (h : Holds val [.ge (.a 4) 0, .is (.a 3) 5, .ne (.a 3) 8, .ne (.a 3) 0, .is (.a 9) 1, .ne (.a 9) 0, .le (.a 8) 2147483647, .ge (.a 8) (-2147483648), .is (.a 0) 2, .ne (.a 0) 1]) : CanonQ val :=
  by_way (.lt (.a 4) (.c 16)) (.le (.a 4) 15) (.ge (.a 4) 16) (by kernel_rfl) (by kernel_rfl) h
  (fun h => canonQSub21 val h)
  (fun h => canonQ119 val h)

theorem canonQSub19 (val : Nat → Int) (h : Holds val [.is (.a 3) 5, .ne (.a 3) 8, .ne (.a 3) 0, .is (.a 9) 1, .ne (.a 9) 0, .le (.a 8) 2147483647, .ge (.a 8) (-2147483648), .is (.a 0) 2, .ne (.a 0) 1]) : CanonQ val :=
  by_way (.le (.c 0) (.a 4)) (.ge (.a 4) 0) (.le (.a 4) (-1)) (by kernel_rfl) (by kernel_rfl) h
  (fun h => canonQSub20 val h)
  (fun h => canonQ120 val h)

theorem canonQSub18 (val : Nat → Int) (h : Holds val [.ne (.a 3) 8, .ne (.a 3) 0, .is (.a 9) 1, .ne (.a 9) 0, .le (.a 8) 2147483647, .ge (.a 8) (-2147483648), .is (.a 0) 2, .ne (.a 0) 1]) : CanonQ val :=
  by_way (.eq (.a 3) (.c 5)) (.is (.a 3) 5) (.ne (.a 3) 5) (by kernel_rfl) (by kernel_rfl) h
  (fun h => canonQSub19 val h)
  (fun h => canonQ121 val h)

theorem canonQSub17 (val : Nat → Int) (h : Holds val [.ne (.a 3) 0, .is (.a 9) 1, .ne (.a 9) 0, .le (.a 8) 2147483647, .ge (.a 8) (-2147483648), .is (.a 0) 2, .ne (.a 0) 1]) : CanonQ val :=
  by_way (.eq (.a 3) (.c 8)) (.is (.a 3) 8) (.ne (.a 3) 8) (by kernel_rfl) (by kernel_rfl) h
  (fun h => by_way (.eq (.a 4) (.c 0)) (.is (.a 4) 0) (.ne (.a 4) 0) (by kernel_rfl) (by kernel_rfl) h
  (fun h => by_way (.eq (.a 5) (.c 0)) (.is (.a 5) 0) (.ne (.a 5) 0) (by kernel_rfl) (by kernel_rfl) h
  (fun h => by_way (.eq (.a 6) (.c 0)) (.is (.a 6) 0) (.ne (.a 6) 0) (by kernel_rfl) (by kernel_rfl) h
  (fun h => by_way (.eq (.a 7) (.c 0)) (.is (.a 7) 0) (.ne (.a 7) 0) (by kernel_rfl) (by kernel_rfl) h
  (fun h => canonQ91 val h)
  (fun h => canonQ92 val h))
  (fun h => canonQ93 val h))
  (fun h => by_way (.eq (.a 5) (.c 5)) (.is (.a 5) 5) (.ne (.a 5) 5) (by kernel_rfl) (by kernel_rfl) h
  (fun h => by_way (.le (.c 0) (.a 6)) (.ge (.a 6) 0) (.le (.a 6) (-1)) (by kernel_rfl) (by kernel_rfl) h
  (fun h => by_way (.lt (.a 6) (.c 16)) (.le (.a 6) 15) (.ge (.a 6) 16) (by kernel_rfl) (by kernel_rfl) h
  (fun h => by_way (.eq (.a 7) (.c 1)) (.is (.a 7) 1) (.ne (.a 7) 1) (by kernel_rfl) (by kernel_rfl) h
  (fun h => canonQ94 val h)
  (fun h => by_way (.eq (.a 7) (.c 2)) (.is (.a 7) 2) (.ne (.a 7) 2) (by kernel_rfl) (by kernel_rfl) h
  (fun h => canonQ95 val h)
  (fun h => by_way (.eq (.a 7) (.c 4)) (.is (.a 7) 4) (.ne (.a 7) 4) (by kernel_rfl) (by kernel_rfl) h
  (fun h => canonQ96 val h)
  (fun h => by_way (.eq (.a 7) (.c 8)) (.is (.a 7) 8) (.ne (.a 7) 8) (by kernel_rfl) (by kernel_rfl) h
  (fun h => canonQ97 val h)
  (fun h => canonQ98 val h)))))
  (fun h => canonQ99 val h))
  (fun h => canonQ100 val h))
  (fun h => canonQ101 val h)))
  (fun h => canonQ102 val h))
  (fun h => canonQSub18 val h)

theorem canonQSub14 (val : Nat → Int) (h : Holds val [.is (.a 9) 1, .ne (.a 9) 0, .le (.a 8) 2147483647, .ge (.a 8) (-2147483648), .is (.a 0) 2, .ne (.a 0) 1]) : CanonQ val :=
  by_way (.eq (.a 3) (.c 0)) (.is (.a 3) 0) (.ne (.a 3) 0) (by kernel_rfl) (by kernel_rfl) h
  (fun h => canonQSub15 val h)
  (fun h => canonQSub17 val h)

theorem canonQSub25 (val : Nat → Int) (h : Holds val [.is (.a 4) 0, .is (.a 3) 0, .is (.a 9) 2, .ne (.a 9) 1, .ne (.a 9) 0, .le (.a 8) 2147483647, .ge (.a 8) (-2147483648), .is (.a 0) 2, .ne (.a 0) 1]) : CanonQ val :=
  by_way (.eq (.a 5) (.c 0)) (.is (.a 5) 0) (.ne (.a 5) 0) (by kernel_rfl) (by kernel_rfl) h
  (fun h => by_way (.eq (.a 6) (.c 0)) (.is (.a 6) 0) (.ne (.a 6) 0) (by kernel_rfl) (by kernel_rfl) h
  (fun h => by_way (.eq (.a 7) (.c 0)) (.is (.a 7) 0) (.ne (.a 7) 0) (by kernel_rfl) (by kernel_rfl) h
  (fun h => canonQ122 val h)
  (fun h => canonQ123 val h))
  (fun h => canonQ124 val h))
  (fun h => by_way (.eq (.a 5) (.c 5)) (.is (.a 5) 5) (.ne (.a 5) 5) (by kernel_rfl) (by kernel_rfl) h
  (fun h => by_way (.le (.c 0) (.a 6)) (.ge (.a 6) 0) (.le (.a 6) (-1)) (by kernel_rfl) (by kernel_rfl) h
  (fun h => by_way (.lt (.a 6) (.c 16)) (.le (.a 6) 15) (.ge (.a 6) 16) (by kernel_rfl) (by kernel_rfl) h
  (fun h => by_way (.eq (.a 7) (.c 1)) (.is (.a 7) 1) (.ne (.a 7) 1) (by kernel_rfl) (by kernel_rfl) h
  (fun h => by_way (.eq (.a 6) (.c 4)) (.is (.a 6) 4) (.ne (.a 6) 4) (by kernel_rfl) (by kernel_rfl) h
  (fun h => canonQ125 val h)
  (fun h => canonQ126 val h))
  (fun h => by_way (.eq (.a 7) (.c 2)) (.is (.a 7) 2) (.ne (.a 7) 2) (by kernel_rfl) (by kernel_rfl) h
  (fun h => by_way (.eq (.a 6) (.c 4)) (.is (.a 6) 4) (.ne (.a 6) 4) (by kernel_rfl) (by kernel_rfl) h
  (fun h => canonQ127 val h)
  (fun h => canonQ128 val h))
  (fun h => by_way (.eq (.a 7) (.c 4)) (.is (.a 7) 4) (.ne (.a 7) 4) (by kernel_rfl) (by kernel_rfl) h
  (fun h => by_way (.eq (.a 6) (.c 4)) (.is (.a 6) 4) (.ne (.a 6) 4) (by kernel_rfl) (by kernel_rfl) h
  (fun h => canonQ129 val h)
  (fun h => canonQ130 val h))
  (fun h => by_way (.eq (.a 7) (.c 8)) (.is (.a 7) 8) (.ne (.a 7) 8) (by kernel_rfl) (by kernel_rfl) h
  (fun h => by_way (.eq (.a 6) (.c 4)) (.is (.a 6) 4) (.ne (.a 6) 4) (by kernel_rfl) (by kernel_rfl) h
  (fun h => canonQ131 val h)
  (fun h => canonQ132 val h))
  (fun h => canonQ133 val h)))))
  (fun h => canonQ134 val h))
  (fun h => canonQ135 val h))
  (fun h => canonQ136 val h))

theorem canonQSub24 (val : Nat → Int) (h : Holds val [.is (.a 3) 0, .is (.a 9) 2, .ne (.a 9) 1, .ne (.a 9) 0, .le (.a 8) 2147483647, .ge (.a 8) (-2147483648), .is (.a 0) 2, .ne (.a 0) 1]) : CanonQ val :=
  by_way (.eq (.a 4) (.c 0)) (.is (.a 4) 0) (.ne (.a 4) 0) (by kernel_rfl) (by kernel_rfl) h
  (fun h => canonQSub25 val h)
  (fun h => canonQ137 val h)

theorem canonQSub31 (val : Nat → Int) (h : Holds val [.ne (.a 5) 0, .le (.a 4) 15, .ge (.a 4) 0, .is (.a 3) 5, .ne (.a 3) 8, .ne (.a 3) 0, .is (.a 9) 2, .ne (.a 9) 1, .ne (.a 9) 0, .le (.a 8) 2147483647, .ge (.a 8) (-2147483648), .is (.a 0) 2, .ne (.a 0) 1]) : CanonQ val :=
  by_way (.eq (.a 5) (.c 5)) (.is (.a 5) 5) (.ne (.a 5) 5) (by kernel_rfl) (by kernel_rfl) h
  (fun h => by_way (.le (.c 0) (.a 6)) (.ge (.a 6) 0) (.le (.a 6) (-1)) (by kernel_rfl) (by kernel_rfl) h
  (fun h => by_way (.lt (.a 6) (.c 16)) (.le (.a 6) 15) (.ge (.a 6) 16) (by kernel_rfl) (by kernel_rfl) h
  (fun h => by_way (.eq (.a 7) (.c 1)) (.is (.a 7) 1) (.ne (.a 7) 1) (by kernel_rfl) (by kernel_rfl) h
  (fun h => by_way (.eq (.a 6) (.c 4)) (.is (.a 6) 4) (.ne (.a 6) 4) (by kernel_rfl) (by kernel_rfl) h
  (fun h => by_way (.eq (.a 4) (.c 4)) (.is (.a 4) 4) (.ne (.a 4) 4) (by kernel_rfl) (by kernel_rfl) h
  (fun h => canonQ153 val h)
  (fun h => canonQ154 val h))
  (fun h => canonQ155 val h))
  (fun h => by_way (.eq (.a 7) (.c 2)) (.is (.a 7) 2) (.ne (.a 7) 2) (by kernel_rfl) (by kernel_rfl) h
  (fun h => by_way (.eq (.a 6) (.c 4)) (.is (.a 6) 4) (.ne (.a 6) 4) (by kernel_rfl) (by kernel_rfl) h
  (fun h => canonQ156 val h)
  (fun h => canonQ157 val h))
  (fun h => by_way (.eq (.a 7) (.c 4)) (.is (.a 7) 4) (.ne (.a 7) 4) (by kernel_rfl) (by kernel_rfl) h
  (fun h => by_way (.eq (.a 6) (.c 4)) (.is (.a 6) 4) (.ne (.a 6) 4) (by kernel_rfl) (by kernel_rfl) h
  (fun h => canonQ158 val h)
  (fun h => canonQ159 val h))
  (fun h => by_way (.eq (.a 7) (.c 8)) (.is (.a 7) 8) (.ne (.a 7) 8) (by kernel_rfl) (by kernel_rfl) h
  (fun h => by_way (.eq (.a 6) (.c 4)) (.is (.a 6) 4) (.ne (.a 6) 4) (by kernel_rfl) (by kernel_rfl) h
  (fun h => canonQ160 val h)
  (fun h => canonQ161 val h))
  (fun h => canonQ162 val h)))))
  (fun h => canonQ163 val h))
  (fun h => canonQ164 val h))
  (fun h => canonQ165 val h)

theorem canonQSub30 (val : Nat → Int) (h : Holds val [.le (.a 4) 15, .ge (.a 4) 0, .is (.a 3) 5, .ne (.a 3) 8, .ne (.a 3) 0, .is (.a 9) 2, .ne (.a 9) 1, .ne (.a 9) 0, .le (.a 8) 2147483647, .ge (.a 8) (-2147483648), .is (.a 0) 2, .ne (.a 0) 1]) : CanonQ val :=
  by_way (.eq (.a 5) (.c 0)) (.is (.a 5) 0) (.ne (.a 5) 0) (by kernel_rfl) (by kernel_rfl) h
  (fun h => by_way (.eq (.a 6) (.c 0)) (.is (.a 6) 0) (.ne (.a 6) 0) (by kernel_rfl) (by kernel_rfl) h
  (fun h => by_way (.eq (.a 7) (.c 0)) (.is (.a 7) 0) (.ne (.a 7) 0) (by kernel_rfl) (by kernel_rfl) h
  (fun h => canonQ150 val h)
  (fun h => canonQ151 val h))
  (fun h => canonQ152 val h))
  (fun h => canonQSub31 val h)

theorem canonQSub29 (val : Nat → Int) (h : Holds val [.ge (.a 4) 0, .is (.a 3) 5, .ne (.a 3) 8, .ne (.a 3) 0, .is (.a 9) 2, .ne (.a 9) 1, .ne (.a 9) 0, .le (.a 8) 2147483647, .ge (.a 8) (-2147483648), .is (.a 0) 2, .ne (.a 0) 1]) : CanonQ val :=
  by_way (.lt (.a 4) (.c 16)) (.le (.a 4) 15) (.ge (.a 4) 16) (by kernel_rfl) (by kernel_rfl) h
  (fun h => canonQSub30 val h)
  (fun h => canonQ166 val h)

theorem canonQSub28 (val : Nat → Int) (h : Holds val [.is (.a 3) 5, .ne (.a 3) 8, .ne (.a 3) 0, .is (.a 9) 2, .ne (.a 9) 1, .ne (.a 9) 0, .le (.a 8) 2147483647, .ge (.a 8) (-2147483648), .is (.a 0) 2, .ne (.a 0) 1]) : CanonQ val :=
  by_way (.le (.c 0) (.a 4)) (.ge (.a 4) 0) (.le (.a 4) (-1)) (by kernel_rfl) (by kernel_rfl) h
  (fun h => canonQSub29 val h)
  (fun h => canonQ167 val h)

theorem canonQSub27 (val : Nat → Int) (h : Holds val [.ne (.a 3) 8, .ne (.a 3) 0, .is (.a 9) 2, .ne (.a 9) 1, .ne (.a 9) 0, .le (.a 8) 2147483647, .ge (.a 8) (-2147483648), .is (.a 0) 2, .ne (.a 0) 1]) : CanonQ val :=
  by_way (.eq (.a 3) (.c 5)) (.is (.a 3) 5) (.ne (.a 3) 5) (by kernel_rfl) (by kernel_rfl) h
  (fun h => canonQSub28 val h)
  (fun h => canonQ168 val h)

theorem canonQSub26 (val : Nat → Int) (h : Holds val [.ne (.a 3) 0, .is (.a 9) 2, .ne (.a 9) 1, .ne (.a 9) 0, .le (.a 8) 2147483647, .ge (.a 8) (-2147483648), .is (.a 0) 2, .ne (.a 0) 1]) : CanonQ val :=
  by_way (.eq (.a 3) (.c 8)) (.is (.a 3) 8) (.ne (.a 3) 8) (by kernel_rfl) (by kernel_rfl) h
  (fun h => by_way (.eq (.a 4) (.c 0)) (.is (.a 4) 0) (.ne (.a 4) 0) (by kernel_rfl) (by kernel_rfl) h
  (fun h => by_way (.eq (.a 5) (.c 0)) (.is (.a 5) 0) (.ne (.a 5) 0) (by kernel_rfl) (by kernel_rfl) h
  (fun h => by_way (.eq (.a 6) (.c 0)) (.is (.a 6) 0) (.ne (.a 6) 0) (by kernel_rfl) (by kernel_rfl) h
  (fun h => by_way (.eq (.a 7) (.c 0)) (.is (.a 7) 0) (.ne (.a 7) 0) (by kernel_rfl) (by kernel_rfl) h
  (fun h => canonQ138 val h)
  (fun h => canonQ139 val h))
  (fun h => canonQ140 val h))
  (fun h => by_way (.eq (.a 5) (.c 5)) (.is (.a 5) 5) (.ne (.a 5) 5) (by kernel_rfl) (by kernel_rfl) h
  (fun h => by_way (.le (.c 0) (.a 6)) (.ge (.a 6) 0) (.le (.a 6) (-1)) (by kernel_rfl) (by kernel_rfl) h
  (fun h => by_way (.lt (.a 6) (.c 16)) (.le (.a 6) 15) (.ge (.a 6) 16) (by kernel_rfl) (by kernel_rfl) h
  (fun h => by_way (.eq (.a 7) (.c 1)) (.is (.a 7) 1) (.ne (.a 7) 1) (by kernel_rfl) (by kernel_rfl) h
  (fun h => canonQ141 val h)
  (fun h => by_way (.eq (.a 7) (.c 2)) (.is (.a 7) 2) (.ne (.a 7) 2) (by kernel_rfl) (by kernel_rfl) h
  (fun h => canonQ142 val h)
  (fun h => by_way (.eq (.a 7) (.c 4)) (.is (.a 7) 4) (.ne (.a 7) 4) (by kernel_rfl) (by kernel_rfl) h
  (fun h => canonQ143 val h)
  (fun h => by_way (.eq (.a 7) (.c 8)) (.is (.a 7) 8) (.ne (.a 7) 8) (by kernel_rfl) (by kernel_rfl) h
  (fun h => canonQ144 val h)
  (fun h => canonQ145 val h)))))
  (fun h => canonQ146 val h))
  (fun h => canonQ147 val h))
  (fun h => canonQ148 val h)))
  (fun h => canonQ149 val h))
  (fun h => canonQSub27 val h)

theorem canonQSub23 (val : Nat → Int) (h : Holds val [.is (.a 9) 2, .ne (.a 9) 1, .ne (.a 9) 0, .le (.a 8) 2147483647, .ge (.a 8) (-2147483648), .is (.a 0) 2, .ne (.a 0) 1]) : CanonQ val :=
  by_way (.eq (.a 3) (.c 0)) (.is (.a 3) 0) (.ne (.a 3) 0) (by kernel_rfl) (by kernel_rfl) h
  (fun h => canonQSub24 val h)
  (fun h => canonQSub26 val h)

theorem canonQSub34 (val : Nat → Int) (h : Holds val [.is (.a 4) 0, .is (.a 3) 0, .is (.a 9) 4, .ne (.a 9) 2, .ne (.a 9) 1, .ne (.a 9) 0, .le (.a 8) 2147483647, .ge (.a 8) (-2147483648), .is (.a 0) 2, .ne (.a 0) 1]) : CanonQ val :=
  by_way (.eq (.a 5) (.c 0)) (.is (.a 5) 0) (.ne (.a 5) 0) (by kernel_rfl) (by kernel_rfl) h
  (fun h => by_way (.eq (.a 6) (.c 0)) (.is (.a 6) 0) (.ne (.a 6) 0) (by kernel_rfl) (by kernel_rfl) h
  (fun h => by_way (.eq (.a 7) (.c 0)) (.is (.a 7) 0) (.ne (.a 7) 0) (by kernel_rfl) (by kernel_rfl) h
  (fun h => canonQ169 val h)
  (fun h => canonQ170 val h))
  (fun h => canonQ171 val h))
  (fun h => by_way (.eq (.a 5) (.c 5)) (.is (.a 5) 5) (.ne (.a 5) 5) (by kernel_rfl) (by kernel_rfl) h
  (fun h => by_way (.le (.c 0) (.a 6)) (.ge (.a 6) 0) (.le (.a 6) (-1)) (by kernel_rfl) (by kernel_rfl) h
  (fun h => by_way (.lt (.a 6) (.c 16)) (.le (.a 6) 15) (.ge (.a 6) 16) (by kernel_rfl) (by kernel_rfl) h
  (fun h => by_way (.eq (.a 7) (.c 1)) (.is (.a 7) 1) (.ne (.a 7) 1) (by kernel_rfl) (by kernel_rfl) h
  (fun h => by_way (.eq (.a 6) (.c 4)) (.is (.a 6) 4) (.ne (.a 6) 4) (by kernel_rfl) (by kernel_rfl) h
  (fun h => canonQ172 val h)
  (fun h => canonQ173 val h))
  (fun h => by_way (.eq (.a 7) (.c 2)) (.is (.a 7) 2) (.ne (.a 7) 2) (by kernel_rfl) (by kernel_rfl) h
  (fun h => by_way (.eq (.a 6) (.c 4)) (.is (.a 6) 4) (.ne (.a 6) 4) (by kernel_rfl) (by kernel_rfl) h
  (fun h => canonQ174 val h)
  (fun h => canonQ175 val h))
  (fun h => by_way (.eq (.a 7) (.c 4)) (.is (.a 7) 4) (.ne (.a 7) 4) (by kernel_rfl) (by kernel_rfl) h
  (fun h => by_way (.eq (.a 6) (.c 4)) (.is (.a 6) 4) (.ne (.a 6) 4) (by kernel_rfl) (by kernel_rfl) h
  (fun h => canonQ176 val h)
  (fun h => canonQ177 val h))
  (fun h => by_way (.eq (.a 7) (.c 8)) (.is (.a 7) 8) (.ne (.a 7) 8) (by kernel_rfl) (by kernel_rfl) h
  (fun h => by_way (.eq (.a 6) (.c 4)) (.is (.a 6) 4) (.ne (.a 6) 4) (by kernel_rfl) (by kernel_rfl) h
  (fun h => canonQ178 val h)
  (fun h => canonQ179 val h))
  (fun h => canonQ180 val h)))))
  (fun h => canonQ181 val h))
  (fun h => canonQ182 val h))
  (fun h => canonQ183 val h))

theorem canonQSub33 (val : Nat → Int) (h : Holds val [.is (.a 3) 0, .is (.a 9) 4, .ne (.a 9) 2, .ne (.a 9) 1, .ne (.a 9) 0, .le (.a 8) 2147483647, .ge (.a 8) (-2147483648), .is (.a 0) 2, .ne (.a 0) 1]) : CanonQ val :=
  by_way (.eq (.a 4) (.c 0)) (.is (.a 4) 0) (.ne (.a 4) 0) (by kernel_rfl) (by kernel_rfl) h
  (fun h => canonQSub34 val h)
  (fun h => canonQ184 val h)

theorem canonQSub40 (val : Nat → Int) (h : Holds val [.ne (.a 5) 0, .le (.a 4) 15, .ge (.a 4) 0, .is (.a 3) 5, .ne (.a 3) 8, .ne (.a 3) 0, .is (.a 9) 4, .ne (.a 9) 2, .ne (.a 9) 1, .ne (.a 9) 0, .le (.a 8) 2147483647, .ge (.a 8) (-2147483648), .is (.a 0) 2, .ne (.a 0) 1]) : CanonQ val :=
  by_way (.eq (.a 5) (.c 5)) (.is (.a 5) 5) (.ne (.a 5) 5) (by kernel_rfl) (by kernel_rfl) h
  (fun h => by_way (.le (.c 0) (.a 6)) (.ge (.a 6) 0) (.le (.a 6) (-1)) (by kernel_rfl) (by kernel_rfl) h
  (fun h => by_way (.lt (.a 6) (.c 16)) (.le (.a 6) 15) (.ge (.a 6) 16) (by kernel_rfl) (by kernel_rfl) h
  (fun h => by_way (.eq (.a 7) (.c 1)) (.is (.a 7) 1) (.ne (.a 7) 1) (by kernel_rfl) (by kernel_rfl) h
  (fun h => by_way (.eq (.a 6) (.c 4)) (.is (.a 6) 4) (.ne (.a 6) 4) (by kernel_rfl) (by kernel_rfl) h
  (fun h => by_way (.eq (.a 4) (.c 4)) (.is (.a 4) 4) (.ne (.a 4) 4) (by kernel_rfl) (by kernel_rfl) h
  (fun h => canonQ200 val h)
  (fun h => canonQ201 val h))
  (fun h => canonQ202 val h))
  (fun h => by_way (.eq (.a 7) (.c 2)) (.is (.a 7) 2) (.ne (.a 7) 2) (by kernel_rfl) (by kernel_rfl) h
  (fun h => by_way (.eq (.a 6) (.c 4)) (.is (.a 6) 4) (.ne (.a 6) 4) (by kernel_rfl) (by kernel_rfl) h
  (fun h => canonQ203 val h)
  (fun h => canonQ204 val h))
  (fun h => by_way (.eq (.a 7) (.c 4)) (.is (.a 7) 4) (.ne (.a 7) 4) (by kernel_rfl) (by kernel_rfl) h
  (fun h => by_way (.eq (.a 6) (.c 4)) (.is (.a 6) 4) (.ne (.a 6) 4) (by kernel_rfl) (by kernel_rfl) h
  (fun h => canonQ205 val h)
  (fun h => canonQ206 val h))
  (fun h => by_way (.eq (.a 7) (.c 8)) (.is (.a 7) 8) (.ne (.a 7) 8) (by kernel_rfl) (by kernel_rfl) h
  (fun h => by_way (.eq (.a 6) (.c 4)) (.is (.a 6) 4) (.ne (.a 6) 4) (by kernel_rfl) (by kernel_rfl) h
  (fun h => canonQ207 val h)
  (fun h => canonQ208 val h))
  (fun h => canonQ209 val h)))))
  (fun h => canonQ210 val h))
  (fun h => canonQ211 val h))
  (fun h => canonQ212 val h)

theorem canonQSub39 (val : Nat → Int) (h : Holds val [.le (.a 4) 15, .ge (.a 4) 0, .is (.a 3) 5, .ne (.a 3) 8, .ne (.a 3) 0, .is (.a 9) 4, .ne (.a 9) 2, .ne (.a 9) 1, .ne (.a 9) 0, .le (.a 8) 2147483647, .ge (.a 8) (-2147483648), .is (.a 0) 2, .ne (.a 0) 1]) : CanonQ val :=
  by_way (.eq (.a 5) (.c 0)) (.is (.a 5) 0) (.ne (.a 5) 0) (by kernel_rfl) (by kernel_rfl) h
  (fun h => by_way (.eq (.a 6) (.c 0)) (.is (.a 6) 0) (.ne (.a 6) 0) (by kernel_rfl) (by kernel_rfl) h
  (fun h => by_way (.eq (.a 7) (.c 0)) (.is (.a 7) 0) (.ne (.a 7) 0) (by kernel_rfl) (by kernel_rfl) h
  (fun h => canonQ197 val h)
  (fun h => canonQ198 val h))
  (fun h => canonQ199 val h))
  (fun h => canonQSub40 val h)

theorem canonQSub38 (val : Nat → Int) (h : Holds val [.ge (.a 4) 0, .is (.a 3) 5, .ne (.a 3) 8, .ne (.a 3) 0, .is (.a 9) 4, .ne (.a 9) 2, .ne (.a 9) 1, .ne (.a 9) 0, .le (.a 8) 2147483647, .ge (.a 8) (-2147483648), .is (.a 0) 2, .ne (.a 0) 1]) : CanonQ val :=
  by_way (.lt (.a 4) (.c 16)) (.le (.a 4) 15) (.ge (.a 4) 16) (by kernel_rfl) (by kernel_rfl) h
  (fun h => canonQSub39 val h)
  (fun h => canonQ213 val h)

theorem canonQSub37 (val : Nat → Int) (h : Holds val [.is (.a 3) 5, .ne (.a 3) 8, .ne (.a 3) 0, .is (.a 9) 4, .ne (.a 9) 2, .ne (.a 9) 1, .ne (.a 9) 0, .le (.a 8) 2147483647, .ge (.a 8) (-2147483648), .is (.a 0) 2, .ne (.a 0) 1]) : CanonQ val :=
  by_way (.le (.c 0) (.a 4)) (.ge (.a 4) 0) (.le (.a 4) (-1)) (by kernel_rfl) (by kernel_rfl) h
  (fun h => canonQSub38 val h)
  (fun h => canonQ214 val h)

theorem canonQSub36 (val : Nat → Int) (h : Holds val [.ne (.a 3) 8, .ne (.a 3) 0, .is (.a 9) 4, .ne (.a 9) 2, .ne (.a 9) 1, .ne (.a 9) 0, .le (.a 8) 2147483647, .ge (.a 8) (-2147483648), .is (.a 0) 2, .ne (.a 0) 1]) : CanonQ val :=
  by_way (.eq (.a 3) (.c 5)) (.is (.a 3) 5) (.ne (.a 3) 5) (by kernel_rfl) (by kernel_rfl) h
  (fun h => canonQSub37 val h)
  (fun h => canonQ215 val h)

theorem canonQSub35 (val : Nat → Int) (h : Holds val [.ne (.a 3) 0, .is (.a 9) 4, .ne (.a 9) 2, .ne (.a 9) 1, .ne (.a 9) 0, .le (.a 8) 2147483647, .ge (.a 8) (-2147483648), .is (.a 0) 2, .ne (.a 0) 1]) : CanonQ val :=
  by_way (.eq (.a 3) (.c 8)) (.is (.a 3) 8) (.ne (.a 3) 8) (by kernel_rfl) (by kernel_rfl) h
  (fun h => by_way (.eq (.a 4) (.c 0)) (.is (.a 4) 0) (.ne (.a 4) 0) (by kernel_rfl) (by kernel_rfl) h
  (fun h => by_way (.eq (.a 5) (.c 0)) (.is (.a 5) 0) (.ne (.a 5) 0) (by kernel_rfl) (by kernel_rfl) h
  (fun h => by_way (.eq (.a 6) (.c 0)) (.is (.a 6) 0) (.ne (.a 6) 0) (by kernel_rfl) (by kernel_rfl) h
  (fun h => by_way (.eq (.a 7) (.c 0)) (.is (.a 7) 0) (.ne (.a 7) 0) (by kernel_rfl) (by kernel_rfl) h
  (fun h => canonQ185 val h)
  (fun h => canonQ186 val h))
  (fun h => canonQ187 val h))
  (fun h => by_way (.eq (.a 5) (.c 5)) (.is (.a 5) 5) (.ne (.a 5) 5) (by kernel_rfl) (by kernel_rfl) h
  (fun h => by_way (.le (.c 0) (.a 6)) (.ge (.a 6) 0) (.le (.a 6) (-1)) (by kernel_rfl) (by kernel_rfl) h
  (fun h => by_way (.lt (.a 6) (.c 16)) (.le (.a 6) 15) (.ge (.a 6) 16) (by kernel_rfl) (by kernel_rfl) h
  (fun h => by_way (.eq (.a 7) (.c 1)) (.is (.a 7) 1) (.ne (.a 7) 1) (by kernel_rfl) (by kernel_rfl) h
  (fun h => canonQ188 val h)
  (fun h => by_way (.eq (.a 7) (.c 2)) (.is (.a 7) 2) (.ne (.a 7) 2) (by kernel_rfl) (by kernel_rfl) h
  (fun h => canonQ189 val h)
  (fun h => by_way (.eq (.a 7) (.c 4)) (.is (.a 7) 4) (.ne (.a 7) 4) (by kernel_rfl) (by kernel_rfl) h
  (fun h => canonQ190 val h)
  (fun h => by_way (.eq (.a 7) (.c 8)) (.is (.a 7) 8) (.ne (.a 7) 8) (by kernel_rfl) (by kernel_rfl) h
  (fun h => canonQ191 val h)
  (fun h => canonQ192 val h)))))
  (fun h => canonQ193 val h))
  (fun h => canonQ194 val h))
  (fun h => canonQ195 val h)))
  (fun h => canonQ196 val h))
  (fun h => canonQSub36 val h)

theorem canonQSub32 (val : Nat → Int) (h : Holds val [.is (.a 9) 4, .ne (.a 9) 2, .ne (.a 9) 1, .ne (.a 9) 0, .le (.a 8) 2147483647, .ge (.a 8) (-2147483648), .is (.a 0) 2, .ne (.a 0) 1]) : CanonQ val :=
  by_way (.eq (.a 3) (.c 0)) (.is (.a 3) 0) (.ne (.a 3) 0) (by kernel_rfl) (by kernel_rfl) h
  (fun h => canonQSub33 val h)
  (fun h => canonQSub35 val h)

theorem canonQSub43 (val : Nat → Int) (h : Holds val [.is (.a 4) 0, .is (.a 3) 0, .is (.a 9) 8, .ne (.a 9) 4, .ne (.a 9) 2, .ne (.a 9) 1, .ne (.a 9) 0, .le (.a 8) 2147483647, .ge (.a 8) (-2147483648), .is (.a 0) 2, .ne (.a 0) 1]) : CanonQ val :=
  by_way (.eq (.a 5) (.c 0)) (.is (.a 5) 0) (.ne (.a 5) 0) (by kernel_rfl) (by kernel_rfl) h
  (fun h => by_way (.eq (.a 6) (.c 0)) (.is (.a 6) 0) (.ne (.a 6) 0) (by kernel_rfl) (by kernel_rfl) h
  (fun h => by_way (.eq (.a 7) (.c 0)) (.is (.a 7) 0) (.ne (.a 7) 0) (by kernel_rfl) (by kernel_rfl) h
  (fun h => canonQ216 val h)
  (fun h => canonQ217 val h))
  (fun h => canonQ218 val h))
  (fun h => by_way (.eq (.a 5) (.c 5)) (.is (.a 5) 5) (.ne (.a 5) 5) (by kernel_rfl) (by kernel_rfl) h
  (fun h => by_way (.le (.c 0) (.a 6)) (.ge (.a 6) 0) (.le (.a 6) (-1)) (by kernel_rfl) (by kernel_rfl) h
  (fun h => by_way (.lt (.a 6) (.c 16)) (.le (.a 6) 15) (.ge (.a 6) 16) (by kernel_rfl) (by kernel_rfl) h
  (fun h => by_way (.eq (.a 7) (.c 1)) (.is (.a 7) 1) (.ne (.a 7) 1) (by kernel_rfl) (by kernel_rfl) h
  (fun h => by_way (.eq (.a 6) (.c 4)) (.is (.a 6) 4) (.ne (.a 6) 4) (by kernel_rfl) (by kernel_rfl) h
  (fun h => canonQ219 val h)
  (fun h => canonQ220 val h))
  (fun h => by_way (.eq (.a 7) (.c 2)) (.is (.a 7) 2) (.ne (.a 7) 2) (by kernel_rfl) (by kernel_rfl) h
  (fun h => by_way (.eq (.a 6) (.c 4)) (.is (.a 6) 4) (.ne (.a 6) 4) (by kernel_rfl) (by kernel_rfl) h
  (fun h => canonQ221 val h)
  (fun h => canonQ222 val h))
  (fun h => by_way (.eq (.a 7) (.c 4)) (.is (.a 7) 4) (.ne (.a 7) 4) (by kernel_rfl) (by kernel_rfl) h
  (fun h => by_way (.eq (.a 6) (.c 4)) (.is (.a 6) 4) (.ne (.a 6) 4) (by kernel_rfl) (by kernel_rfl) h
  (fun h => canonQ223 val h)
  (fun h => canonQ224 val h))
  (fun h => by_way (.eq (.a 7) (.c 8)) (.is (.a 7) 8) (.ne (.a 7) 8) (by kernel_rfl) (by kernel_rfl) h
  (fun h => by_way (.eq (.a 6) (.c 4)) (.is (.a 6) 4) (.ne (.a 6) 4) (by kernel_rfl) (by kernel_rfl) h
  (fun h => canonQ225 val h)
  (fun h => canonQ226 val h))
  (fun h => canonQ227 val h)))))
  (fun h => canonQ228 val h))
  (fun h => canonQ229 val h))
  (fun h => canonQ230 val h))

theorem canonQSub42 (val : Nat → Int) (h : Holds val [.is (.a 3) 0, .is (.a 9) 8, .ne (.a 9) 4, .ne (.a 9) 2, .ne (.a 9) 1, .ne (.a 9) 0, .le (.a 8) 2147483647, .ge (.a 8) (-2147483648), .is (.a 0) 2, .ne (.a 0) 1]) : CanonQ val :=
  by_way (.eq (.a 4) (.c 0)) (.is (.a 4) 0) (.ne (.a 4) 0) (by kernel_rfl) (by kernel_rfl) h
  (fun h => canonQSub43 val h)
  (fun h => canonQ231 val h)

theorem canonQSub49 (val : Nat → Int) (h : Holds val [.ne (.a 5) 0, .le (.a 4) 15, .ge (.a 4) 0, .is (.a 3) 5, .ne (.a 3) 8, .ne (.a 3) 0, .is (.a 9) 8, .ne (.a 9) 4, .ne (.a 9) 2, .ne (.a 9) 1, .ne (.a 9) 0, .le (.a 8) 2147483647, .ge (.a 8) (-2147483648), .is (.a 0) 2, .ne (.a 0) 1]) : CanonQ val :=
  by_way (.eq (.a 5) (.c 5)) (.is (.a 5) 5) (.ne (.a 5) 5) (by kernel_rfl) (by kernel_rfl) h
  (fun h => by_way (.le (.c 0) (.a 6)) (.ge (.a 6) 0) (.le (.a 6) (-1)) (by kernel_rfl) (by kernel_rfl) h
  (fun h => by_way (.lt (.a 6) (.c 16)) (.le (.a 6) 15) (.ge (.a 6) 16) (by kernel_rfl) (by kernel_rfl) h
  (fun h => by_way (.eq (.a 7) (.c 1)) (.is (.a 7) 1) (.ne (.a 7) 1) (by kernel_rfl) (by kernel_rfl) h
  (fun h => by_way (.eq (.a 6) (.c 4)) (.is (.a 6) 4) (.ne (.a 6) 4) (by kernel_rfl) (by kernel_rfl) h
  (fun h => by_way (.eq (.a 4) (.c 4)) (.is (.a 4) 4) (.ne (.a 4) 4) (by kernel_rfl) (by kernel_rfl) h
  (fun h => canonQ247 val h)
  (fun h => canonQ248 val h))
  (fun h => canonQ249 val h))
  (fun h => by_way (.eq (.a 7) (.c 2)) (.is (.a 7) 2) (.ne (.a 7) 2) (by kernel_rfl) (by kernel_rfl) h
  (fun h => by_way (.eq (.a 6) (.c 4)) (.is (.a 6) 4) (.ne (.a 6) 4) (by kernel_rfl) (by kernel_rfl) h
  (fun h => canonQ250 val h)
  (fun h => canonQ251 val h))
  (fun h => by_way (.eq (.a 7) (.c 4)) (.is (.a 7) 4) (.ne (.a 7) 4) (by kernel_rfl) (by kernel_rfl) h
  (fun h => by_way (.eq (.a 6) (.c 4)) (.is (.a 6) 4) (.ne (.a 6) 4) (by kernel_rfl) (by kernel_rfl) h
  (fun h => canonQ252 val h)
  (fun h => canonQ253 val h))
  (fun h => by_way (.eq (.a 7) (.c 8)) (.is (.a 7) 8) (.ne (.a 7) 8) (by kernel_rfl) (by kernel_rfl) h
  (fun h => by_way (.eq (.a 6) (.c 4)) (.is (.a 6) 4) (.ne (.a 6) 4) (by kernel_rfl) (by kernel_rfl) h
  (fun h => canonQ254 val h)
  (fun h => canonQ255 val h))
  (fun h => canonQ256 val h)))))
  (fun h => canonQ257 val h))
  (fun h => canonQ258 val h))
  (fun h => canonQ259 val h)

theorem canonQSub48 (val : Nat → Int) (h : Holds val [.le (.a 4) 15, .ge (.a 4) 0, .is (.a 3) 5, .ne (.a 3) 8, .ne (.a 3) 0, .is (.a 9) 8, .ne (.a 9) 4, .ne (.a 9) 2, .ne (.a 9) 1, .ne (.a 9) 0, .le (.a 8) 2147483647, .ge (.a 8) (-2147483648), .is (.a 0) 2, .ne (.a 0) 1]) : CanonQ val :=
  by_way (.eq (.a 5) (.c 0)) (.is (.a 5) 0) (.ne (.a 5) 0) (by kernel_rfl) (by kernel_rfl) h
  (fun h => by_way (.eq (.a 6) (.c 0)) (.is (.a 6) 0) (.ne (.a 6) 0) (by kernel_rfl) (by kernel_rfl) h
  (fun h => by_way (.eq (.a 7) (.c 0)) (.is (.a 7) 0) (.ne (.a 7) 0) (by kernel_rfl) (by kernel_rfl) h
  (fun h => canonQ244 val h)
  (fun h => canonQ245 val h))
  (fun h => canonQ246 val h))
  (fun h => canonQSub49 val h)

theorem canonQSub47 (val : Nat → Int) (h : Holds val [.ge (.a 4) 0, .is (.a 3) 5, .ne (.a 3) 8, .ne (.a 3) 0, .is (.a 9) 8, .ne (.a 9) 4, .ne (.a 9) 2, .ne (.a 9) 1, .ne (.a 9) 0, .le (.a 8) 2147483647, .ge (.a 8) (-2147483648), .is (.a 0) 2, .ne (.a 0) 1]) : CanonQ val :=
  by_way (.lt (.a 4) (.c 16)) (.le (.a 4) 15) (.ge (.a 4) 16) (by kernel_rfl) (by kernel_rfl) h
  (fun h => canonQSub48 val h)
  (fun h => canonQ260 val h)

theorem canonQSub46 (val : Nat → Int) (h : Holds val [.is (.a 3) 5, .ne (.a 3) 8, .ne (.a 3) 0, .is (.a 9) 8, .ne (.a 9) 4, .ne (.a 9) 2, .ne (.a 9) 1, .ne (.a 9) 0, .le (.a 8) 2147483647, .ge (.a 8) (-2147483648), .is (.a 0) 2, .ne (.a 0) 1]) : CanonQ val :=
  by_way (.le (.c 0) (.a 4)) (.ge (.a 4) 0) (.le (.a 4) (-1)) (by kernel_rfl) (by kernel_rfl) h
  (fun h => canonQSub47 val h)
  (fun h => canonQ261 val h)

theorem canonQSub45 (val : Nat → Int) (h : Holds val [.ne (.a 3) 8, .ne (.a 3) 0, .is (.a 9) 8, .ne (.a 9) 4, .ne (.a 9) 2, .ne (.a 9) 1, .ne (.a 9) 0, .le (.a 8) 2147483647, .ge (.a 8) (-2147483648), .is (.a 0) 2, .ne (.a 0) 1]) : CanonQ val :=
  by_way (.eq (.a 3) (.c 5)) (.is (.a 3) 5) (.ne (.a 3) 5) (by kernel_rfl) (by kernel_rfl) h
  (fun h => canonQSub46 val h)
  (fun h => canonQ262 val h)

theorem canonQSub44 (val : Nat → Int) (h : Holds val [.ne (.a 3) 0, .is (.a 9) 8, .ne (.a 9) 4, .ne (.a 9) 2, .ne (.a 9) 1, .ne (.a 9) 0, .le (.a 8) 2147483647, .ge (.a 8) (-2147483648), .is (.a 0) 2, .ne (.a 0) 1]) : CanonQ val :=
  by_way (.eq (.a 3) (.c 8)) (.is (.a 3) 8) (.ne (.a 3) 8) (by kernel_rfl) (by kernel_rfl) h
  (fun h => by_way (.eq (.a 4) (.c 0)) (.is (.a 4) 0) (.ne (.a 4) 0) (by kernel_rfl) (by kernel_rfl) h
  (fun h => by_way (.eq (.a 5) (.c 0)) (.is (.a 5) 0) (.ne (.a 5) 0) (by kernel_rfl) (by kernel_rfl) h
  (fun h => by_way (.eq (.a 6) (.c 0)) (.is (.a 6) 0) (.ne (.a 6) 0) (by kernel_rfl) (by kernel_rfl) h
  (fun h => by_way (.eq (.a 7) (.c 0)) (.is (.a 7) 0) (.ne (.a 7) 0) (by kernel_rfl) (by kernel_rfl) h
  (fun h => canonQ232 val h)
  (fun h => canonQ233 val h))
  (fun h => canonQ234 val h))
  (fun h => by_way (.eq (.a 5) (.c 5)) (.is (.a 5) 5) (.ne (.a 5) 5) (by kernel_rfl) (by kernel_rfl) h
  (fun h => by_way (.le (.c 0) (.a 6)) (.ge (.a 6) 0) (.le (.a 6) (-1)) (by kernel_rfl) (by kernel_rfl) h
  (fun h => by_way (.lt (.a 6) (.c 16)) (.le (.a 6) 15) (.ge (.a 6) 16) (by kernel_rfl) (by kernel_rfl) h
  (fun h => by_way (.eq (.a 7) (.c 1)) (.is (.a 7) 1) (.ne (.a 7) 1) (by kernel_rfl) (by kernel_rfl) h
  (fun h => canonQ235 val h)
  (fun h => by_way (.eq (.a 7) (.c 2)) (.is (.a 7) 2) (.ne (.a 7) 2) (by kernel_rfl) (by kernel_rfl) h
  (fun h => canonQ236 val h)
  (fun h => by_way (.eq (.a 7) (.c 4)) (.is (.a 7) 4) (.ne (.a 7) 4) (by kernel_rfl) (by kernel_rfl) h
  (fun h => canonQ237 val h)
  (fun h => by_way (.eq (.a 7) (.c 8)) (.is (.a 7) 8) (.ne (.a 7) 8) (by kernel_rfl) (by kernel_rfl) h
  (fun h => canonQ238 val h)
  (fun h => canonQ239 val h)))))
  (fun h => canonQ240 val h))
  (fun h => canonQ241 val h))
  (fun h => canonQ242 val h)))
  (fun h => canonQ243 val h))
  (fun h => canonQSub45 val h)

theorem canonQSub41 (val : Nat → Int) (h : Holds val [.is (.a 9) 8, .ne (.a 9) 4, .ne (.a 9) 2, .ne (.a 9) 1, .ne (.a 9) 0, .le (.a 8) 2147483647, .ge (.a 8) (-2147483648), .is (.a 0) 2, .ne (.a 0) 1]) : CanonQ val :=
  by_way (.eq (.a 3) (.c 0)) (.is (.a 3) 0) (.ne (.a 3) 0) (by kernel_rfl) (by kernel_rfl) h
  (fun h => canonQSub42 val h)
  (fun h => canonQSub44 val h)

theorem canonQSub52 (val : Nat → Int) (h : Holds val [.is (.a 4) 0, .is (.a 3) 0, .is (.a 9) 16, .ne (.a 9) 8, .ne (.a 9) 4, .ne (.a 9) 2, .ne (.a 9) 1, .ne (.a 9) 0, .le (.a 8) 2147483647, .ge (.a 8) (-2147483648), .is (.a 0) 2, .ne (.a 0) 1]) : CanonQ val :=
  by_way (.eq (.a 5) (.c 0)) (.is (.a 5) 0) (.ne (.a 5) 0) (by kernel_rfl) (by kernel_rfl) h
  (fun h => by_way (.eq (.a 6) (.c 0)) (.is (.a 6) 0) (.ne (.a 6) 0) (by kernel_rfl) (by kernel_rfl) h
  (fun h => by_way (.eq (.a 7) (.c 0)) (.is (.a 7) 0) (.ne (.a 7) 0) (by kernel_rfl) (by kernel_rfl) h
  (fun h => canonQ263 val h)
  (fun h => canonQ264 val h))
  (fun h => canonQ265 val h))
  (fun h => by_way (.eq (.a 5) (.c 5)) (.is (.a 5) 5) (.ne (.a 5) 5) (by kernel_rfl) (by kernel_rfl) h
  (fun h => by_way (.le (.c 0) (.a 6)) (.ge (.a 6) 0) (.le (.a 6) (-1)) (by kernel_rfl) (by kernel_rfl) h
  (fun h => by_way (.lt (.a 6) (.c 16)) (.le (.a 6) 15) (.ge (.a 6) 16) (by kernel_rfl) (by kernel_rfl) h
  (fun h => by_way (.eq (.a 7) (.c 1)) (.is (.a 7) 1) (.ne (.a 7) 1) (by kernel_rfl) (by kernel_rfl) h
  (fun h => by_way (.eq (.a 6) (.c 4)) (.is (.a 6) 4) (.ne (.a 6) 4) (by kernel_rfl) (by kernel_rfl) h
  (fun h => canonQ266 val h)
  (fun h => canonQ267 val h))
  (fun h => by_way (.eq (.a 7) (.c 2)) (.is (.a 7) 2) (.ne (.a 7) 2) (by kernel_rfl) (by kernel_rfl) h
  (fun h => by_way (.eq (.a 6) (.c 4)) (.is (.a 6) 4) (.ne (.a 6) 4) (by kernel_rfl) (by kernel_rfl) h
  (fun h => canonQ268 val h)
  (fun h => canonQ269 val h))
  (fun h => by_way (.eq (.a 7) (.c 4)) (.is (.a 7) 4) (.ne (.a 7) 4) (by kernel_rfl) (by kernel_rfl) h
  (fun h => by_way (.eq (.a 6) (.c 4)) (.is (.a 6) 4) (.ne (.a 6) 4) (by kernel_rfl) (by kernel_rfl) h
  (fun h => canonQ270 val h)
  (fun h => canonQ271 val h))
  (fun h => by_way (.eq (.a 7) (.c 8)) (.is (.a 7) 8) (.ne (.a 7) 8) (by kernel_rfl) (by kernel_rfl) h
  (fun h => by_way (.eq (.a 6) (.c 4)) (.is (.a 6) 4) (.ne (.a 6) 4) (by kernel_rfl) (by kernel_rfl) h
  (fun h => canonQ272 val h)
  (fun h => canonQ273 val h))
  (fun h => canonQ274 val h)))))
  (fun h => canonQ275 val h))
  (fun h => canonQ276 val h))
  (fun h => canonQ277 val h))

theorem canonQSub51 (val : Nat → Int) (h : Holds val [.is (.a 3) 0, .is (.a 9) 16, .ne (.a 9) 8, .ne (.a 9) 4, .ne (.a 9) 2, .ne (.a 9) 1, .ne (.a 9) 0, .le (.a 8) 2147483647, .ge (.a 8) (-2147483648), .is (.a 0) 2, .ne (.a 0) 1]) : CanonQ val :=
  by_way (.eq (.a 4) (.c 0)) (.is (.a 4) 0) (.ne (.a 4) 0) (by kernel_rfl) (by kernel_rfl) h
  (fun h => canonQSub52 val h)
  (fun h => canonQ278 val h)

theorem canonQSub58 (val : Nat → Int) (h : Holds val [.ne (.a 5) 0, .le (.a 4) 15, .ge (.a 4) 0, .is (.a 3) 5, .ne (.a 3) 8, .ne (.a 3) 0, .is (.a 9) 16, .ne (.a 9) 8, .ne (.a 9) 4, .ne (.a 9) 2, .ne (.a 9) 1, .ne (.a 9) 0, .le (.a 8) 2147483647, .ge (.a 8) (-2147483648), .is (.a 0) 2, .ne (.a 0) 1]) : CanonQ val :=
  by_way (.eq (.a 5) (.c 5)) (.is (.a 5) 5) (.ne (.a 5) 5) (by kernel_rfl) (by kernel_rfl) h
  (fun h => by_way (.le (.c 0) (.a 6)) (.ge (.a 6) 0) (.le (.a 6) (-1)) (by kernel_rfl) (by kernel_rfl) h
  (fun h => by_way (.lt (.a 6) (.c 16)) (.le (.a 6) 15) (.ge (.a 6) 16) (by kernel_rfl) (by kernel_rfl) h
  (fun h => by_way (.eq (.a 7) (.c 1)) (.is (.a 7) 1) (.ne (.a 7) 1) (by kernel_rfl) (by kernel_rfl) h
  (fun h => by_way (.eq (.a 6) (.c 4)) (.is (.a 6) 4) (.ne (.a 6) 4) (by kernel_rfl) (by kernel_rfl) h
  (fun h => by_way (.eq (.a 4) (.c 4)) (.is (.a 4) 4) (.ne (.a 4) 4) (by kernel_rfl) (by kernel_rfl) h
  (fun h => canonQ294 val h)
  (fun h => canonQ295 val h))
  (fun h => canonQ296 val h))
  (fun h => by_way (.eq (.a 7) (.c 2)) (.is (.a 7) 2) (.ne (.a 7) 2) (by kernel_rfl) (by kernel_rfl) h
  (fun h => by_way (.eq (.a 6) (.c 4)) (.is (.a 6) 4) (.ne (.a 6) 4) (by kernel_rfl) (by kernel_rfl) h
  (fun h => canonQ297 val h)
  (fun h => canonQ298 val h))
  (fun h => by_way (.eq (.a 7) (.c 4)) (.is (.a 7) 4) (.ne (.a 7) 4) (by kernel_rfl) (by kernel_rfl) h
  (fun h => by_way (.eq (.a 6) (.c 4)) (.is (.a 6) 4) (.ne (.a 6) 4) (by kernel_rfl) (by kernel_rfl) h
  (fun h => canonQ299 val h)
  (fun h => canonQ300 val h))
  (fun h => by_way (.eq (.a 7) (.c 8)) (.is (.a 7) 8) (.ne (.a 7) 8) (by kernel_rfl) (by kernel_rfl) h
  (fun h => by_way (.eq (.a 6) (.c 4)) (.is (.a 6) 4) (.ne (.a 6) 4) (by kernel_rfl) (by kernel_rfl) h
  (fun h => canonQ301 val h)
  (fun h => canonQ302 val h))
  (fun h => canonQ303 val h)))))
  (fun h => canonQ304 val h))
  (fun h => canonQ305 val h))
  (fun h => canonQ306 val h)

theorem canonQSub57 (val : Nat → Int) (h : Holds val [.le (.a 4) 15, .ge (.a 4) 0, .is (.a 3) 5, .ne (.a 3) 8, .ne (.a 3) 0, .is (.a 9) 16, .ne (.a 9) 8, .ne (.a 9) 4, .ne (.a 9) 2, .ne (.a 9) 1, .ne (.a 9) 0, .le (.a 8) 2147483647, .ge (.a 8) (-2147483648), .is (.a 0) 2, .ne (.a 0) 1]) : CanonQ val :=
  by_way (.eq (.a 5) (.c 0)) (.is (.a 5) 0) (.ne (.a 5) 0) (by kernel_rfl) (by kernel_rfl) h
  (fun h => by_way (.eq (.a 6) (.c 0)) (.is (.a 6) 0) (.ne (.a 6) 0) (by kernel_rfl) (by kernel_rfl) h
  (fun h => by_way (.eq (.a 7) (.c 0)) (.is (.a 7) 0) (.ne (.a 7) 0) (by kernel_rfl) (by kernel_rfl) h
  (fun h => canonQ291 val h)
  (fun h => canonQ292 val h))
  (fun h => canonQ293 val h))
  (fun h => canonQSub58 val h)

theorem canonQSub56 (val : Nat → Int) (h : Holds val [.ge (.a 4) 0, .is (.a 3) 5, .ne (.a 3) 8, .ne (.a 3) 0, .is (.a 9) 16, .ne (.a 9) 8, .ne (.a 9) 4, .ne (.a 9) 2, .ne (.a 9) 1, .ne (.a 9) 0, .le (.a 8) 2147483647, .ge (.a 8) (-2147483648), .is (.a 0) 2, .ne (.a 0) 1]) : CanonQ val :=
  by_way (.lt (.a 4) (.c 16)) (.le (.a 4) 15) (.ge (.a 4) 16) (by kernel_rfl) (by kernel_rfl) h
  (fun h => canonQSub57 val h)
  (fun h => canonQ307 val h)

theorem canonQSub55 (val : Nat → Int) (h : Holds val [.is (.a 3) 5, .ne (.a 3) 8, .ne (.a 3) 0, .is (.a 9) 16, .ne (.a 9) 8, .ne (.a 9) 4, .ne (.a 9) 2, .ne (.a 9) 1, .ne (.a 9) 0, .le (.a 8) 2147483647, .ge (.a 8) (-2147483648), .is (.a 0) 2, .ne (.a 0) 1]) : CanonQ val :=
  by_way (.le (.c 0) (.a 4)) (.ge (.a 4) 0) (.le (.a 4) (-1)) (by kernel_rfl) (by kernel_rfl) h
  (fun h => canonQSub56 val h)
  (fun h => canonQ308 val h)

theorem canonQSub54 (val : Nat → Int) (h : Holds val [.ne (.a 3) 8, .ne (.a 3) 0, .is (.a 9) 16, .ne (.a 9) 8, .ne (.a 9) 4, .ne (.a 9) 2, .ne (.a 9) 1, .ne (.a 9) 0, .le (.a 8) 2147483647, .ge (.a 8) (-2147483648), .is (.a 0) 2, .ne (.a 0) 1]) : CanonQ val :=
  by_way (.eq (.a 3) (.c 5)) (.is (.a 3) 5) (.ne (.a 3) 5) (by kernel_rfl) (by kernel_rfl) h
  (fun h => canonQSub55 val h)
  (fun h => canonQ309 val h)

theorem canonQSub53 (val : Nat → Int) (h : Holds val [.ne (.a 3) 0, .is (.a 9) 16, .ne (.a 9) 8, .ne (.a 9) 4, .ne (.a 9) 2, .ne (.a 9) 1, .ne (.a 9) 0, .le (.a 8) 2147483647, .ge (.a 8) (-2147483648), .is (.a 0) 2, .ne (.a 0) 1]) : CanonQ val :=
  by_way (.eq (.a 3) (.c 8)) (.is (.a 3) 8) (.ne (.a 3) 8) (by kernel_rfl) (by kernel_rfl) h
  (fun h => by_way (.eq (.a 4) (.c 0)) (.is (.a 4) 0) (.ne (.a 4) 0) (by kernel_rfl) (by kernel_rfl) h
  (fun h => by_way (.eq (.a 5) (.c 0)) (.is (.a 5) 0) (.ne (.a 5) 0) (by kernel_rfl) (by kernel_rfl) h
  (fun h => by_way (.eq (.a 6) (.c 0)) (.is (.a 6) 0) (.ne (.a 6) 0) (by kernel_rfl) (by kernel_rfl) h
  (fun h => by_way (.eq (.a 7) (.c 0)) (.is (.a 7) 0) (.ne (.a 7) 0) (by kernel_rfl) (by kernel_rfl) h
  (fun h => canonQ279 val h)
  (fun h => canonQ280 val h))
  (fun h => canonQ281 val h))
  (fun h => by_way (.eq (.a 5) (.c 5)) (.is (.a 5) 5) (.ne (.a 5) 5) (by kernel_rfl) (by kernel_rfl) h
  (fun h => by_way (.le (.c 0) (.a 6)) (.ge (.a 6) 0) (.le (.a 6) (-1)) (by kernel_rfl) (by kernel_rfl) h
  (fun h => by_way (.lt (.a 6) (.c 16)) (.le (.a 6) 15) (.ge (.a 6) 16) (by kernel_rfl) (by kernel_rfl) h
  (fun h => by_way (.eq (.a 7) (.c 1)) (.is (.a 7) 1) (.ne (.a 7) 1) (by kernel_rfl) (by kernel_rfl) h
  (fun h => canonQ282 val h)
  (fun h => by_way (.eq (.a 7) (.c 2)) (.is (.a 7) 2) (.ne (.a 7) 2) (by kernel_rfl) (by kernel_rfl) h
  (fun h => canonQ283 val h)
  (fun h => by_way (.eq (.a 7) (.c 4)) (.is (.a 7) 4) (.ne (.a 7) 4) (by kernel_rfl) (by kernel_rfl) h
  (fun h => canonQ284 val h)
  (fun h => by_way (.eq (.a 7) (.c 8)) (.is (.a 7) 8) (.ne (.a 7) 8) (by kernel_rfl) (by kernel_rfl) h
  (fun h => canonQ285 val h)
  (fun h => canonQ286 val h)))))
  (fun h => canonQ287 val h))
  (fun h => canonQ288 val h))
  (fun h => canonQ289 val h)))
  (fun h => canonQ290 val h))
  (fun h => canonQSub54 val h)

theorem canonQSub50 (val : Nat → Int) (h : Holds val [.is (.a 9) 16, .ne (.a 9) 8, .ne (.a 9) 4, .ne (.a 9) 2, .ne (.a 9) 1, .ne (.a 9) 0, .le (.a 8) 2147483647, .ge (.a 8) (-2147483648), .is (.a 0) 2, .ne (.a 0) 1]) : CanonQ val :=
  by_way (.eq (.a 3) (.c 0)) (.is (.a 3) 0) (.ne (.a 3) 0) (by kernel_rfl) (by kernel_rfl) h
  (fun h => canonQSub51 val h)
  (fun h => canonQSub53 val h)

theorem canonQSub62 (val : Nat → Int) (h : Holds val [.is (.a 4) 0, .is (.a 3) 0, .is (.a 9) 32, .ne (.a 9) 16, .ne (.a 9) 8, .ne (.a 9) 4, .ne (.a 9) 2, .ne (.a 9) 1, .ne (.a 9) 0, .le (.a 8) 2147483647, .ge (.a 8) (-2147483648), .is (.a 0) 2, .ne (.a 0) 1]) : CanonQ val :=
  by_way (.eq (.a 5) (.c 0)) (.is (.a 5) 0) (.ne (.a 5) 0) (by kernel_rfl) (by kernel_rfl) h
  (fun h => by_way (.eq (.a 6) (.c 0)) (.is (.a 6) 0) (.ne (.a 6) 0) (by kernel_rfl) (by kernel_rfl) h
  (fun h => by_way (.eq (.a 7) (.c 0)) (.is (.a 7) 0) (.ne (.a 7) 0) (by kernel_rfl) (by kernel_rfl) h
  (fun h => canonQ310 val h)
  (fun h => canonQ311 val h))
  (fun h => canonQ312 val h))
  (fun h => by_way (.eq (.a 5) (.c 5)) (.is (.a 5) 5) (.ne (.a 5) 5) (by kernel_rfl) (by kernel_rfl) h
  (fun h => by_way (.le (.c 0) (.a 6)) (.ge (.a 6) 0) (.le (.a 6) (-1)) (by kernel_rfl) (by kernel_rfl) h
  (fun h => by_way (.lt (.a 6) (.c 16)) (.le (.a 6) 15) (.ge (.a 6) 16) (by kernel_rfl) (by kernel_rfl) h
  (fun h => by_way (.eq (.a 7) (.c 1)) (.is (.a 7) 1) (.ne (.a 7) 1) (by kernel_rfl) (by kernel_rfl) h
  (fun h => by_way (.eq (.a 6) (.c 4)) (.is (.a 6) 4) (.ne (.a 6) 4) (by kernel_rfl) (by kernel_rfl) h
  (fun h => canonQ313 val h)
  (fun h => canonQ314 val h))
  (fun h => by_way (.eq (.a 7) (.c 2)) (.is (.a 7) 2) (.ne (.a 7) 2) (by kernel_rfl) (by kernel_rfl) h
  (fun h => by_way (.eq (.a 6) (.c 4)) (.is (.a 6) 4) (.ne (.a 6) 4) (by kernel_rfl) (by kernel_rfl) h
  (fun h => canonQ315 val h)
  (fun h => canonQ316 val h))
  (fun h => by_way (.eq (.a 7) (.c 4)) (.is (.a 7) 4) (.ne (.a 7) 4) (by kernel_rfl) (by kernel_rfl) h
  (fun h => by_way (.eq (.a 6) (.c 4)) (.is (.a 6) 4) (.ne (.a 6) 4) (by kernel_rfl) (by kernel_rfl) h
  (fun h => canonQ317 val h)
  (fun h => canonQ318 val h))
  (fun h => by_way (.eq (.a 7) (.c 8)) (.is (.a 7) 8) (.ne (.a 7) 8) (by kernel_rfl) (by kernel_rfl) h
  (fun h => by_way (.eq (.a 6) (.c 4)) (.is (.a 6) 4) (.ne (.a 6) 4) (by kernel_rfl) (by kernel_rfl) h
  (fun h => canonQ319 val h)
  (fun h => canonQ320 val h))
  (fun h => canonQ321 val h)))))
  (fun h => canonQ322 val h))
  (fun h => canonQ323 val h))
  (fun h => canonQ324 val h))

theorem canonQSub61 (val : Nat → Int) (h : Holds val [.is (.a 3) 0, .is (.a 9) 32, .ne (.a 9) 16, .ne (.a 9) 8, .ne (.a 9) 4, .ne (.a 9) 2, .ne (.a 9) 1, .ne (.a 9) 0, .le (.a 8) 2147483647, .ge (.a 8) (-2147483648), .is (.a 0) 2, .ne (.a 0) 1]) : CanonQ val :=
  by_way (.eq (.a 4) (.c 0)) (.is (.a 4) 0) (.ne (.a 4) 0) (by kernel_rfl) (by kernel_rfl) h
  (fun h => canonQSub62 val h)
  (fun h => canonQ325 val h)

theorem canonQSub68 (val : Nat → Int) (h : Holds val [.ne (.a 5) 0, .le (.a 4) 15, .ge (.a 4) 0, .is (.a 3) 5, .ne (.a 3) 8, .ne (.a 3) 0, .is (.a 9) 32, .ne (.a 9) 16, .ne (.a 9) 8, .ne (.a 9) 4, .ne (.a 9) 2, .ne (.a 9) 1, .ne (.a 9) 0, .le (.a 8) 2147483647, .ge (.a 8) (-2147483648), .is (.a 0) 2, .ne (.a 0) 1]) : CanonQ val :=
  by_way (.eq (.a 5) (.c 5)) (.is (.a 5) 5) (.ne (.a 5) 5) (by kernel_rfl) (by kernel_rfl) h
  (fun h => by_way (.le (.c 0) (.a 6)) (.ge (.a 6) 0) (.le (.a 6) (-1)) (by kernel_rfl) (by kernel_rfl) h
  (fun h => by_way (.lt (.a 6) (.c 16)) (.le (.a 6) 15) (.ge (.a 6) 16) (by kernel_rfl) (by kernel_rfl) h
  (fun h => by_way (.eq (.a 7) (.c 1)) (.is (.a 7) 1) (.ne (.a 7) 1) (by kernel_rfl) (by kernel_rfl) h
  (fun h => by_way (.eq (.a 6) (.c 4)) (.is (.a 6) 4) (.ne (.a 6) 4) (by kernel_rfl) (by kernel_rfl) h
  (fun h => by_way (.eq (.a 4) (.c 4)) (.is (.a 4) 4) (.ne (.a 4) 4) (by kernel_rfl) (by kernel_rfl) h
  (fun h => canonQ341 val h)
  (fun h => canonQ342 val h))
  (fun h => canonQ343 val h))
  (fun h => by_way (.eq (.a 7) (.c 2)) (.is (.a 7) 2) (.ne (.a 7) 2) (by kernel_rfl) (by kernel_rfl) h
  (fun h => by_way (.eq (.a 6) (.c 4)) (.is (.a 6) 4) (.ne (.a 6) 4) (by kernel_rfl) (by kernel_rfl) h
  (fun h => canonQ344 val h)
  (fun h => canonQ345 val h))
  (fun h => by_way (.eq (.a 7) (.c 4)) (.is (.a 7) 4) (.ne (.a 7) 4) (by kernel_rfl) (by kernel_rfl) h
  (fun h => by_way (.eq (.a 6) (.c 4)) (.is (.a 6) 4) (.ne (.a 6) 4) (by kernel_rfl) (by kernel_rfl) h
  (fun h => canonQ346 val h)
  (fun h => canonQ347 val h))
  (fun h => by_way (.eq (.a 7) (.c 8)) (.is (.a 7) 8) (.ne (.a 7) 8) (by kernel_rfl) (by kernel_rfl) h
  (fun h => by_way (.eq (.a 6) (.c 4)) (.is (.a 6) 4) (.ne (.a 6) 4) (by kernel_rfl) (by kernel_rfl) h
  (fun h => canonQ348 val h)
  (fun h => canonQ349 val h))
  (fun h => canonQ350 val h)))))
  (fun h => canonQ351 val h))
  (fun h => canonQ352 val h))
  (fun h => canonQ353 val h)

theorem canonQSub67 (val : Nat → Int) (h : Holds val [.le (.a 4) 15, .ge (.a 4) 0, .is (.a 3) 5, .ne (.a 3) 8, .ne (.a 3) 0, .is (.a 9) 32, .ne (.a 9) 16, .ne (.a 9) 8, .ne (.a 9) 4, .ne (.a 9) 2, .ne (.a 9) 1, .ne (.a 9) 0, .le (.a 8) 2147483647, .ge (.a 8) (-2147483648), .is (.a 0) 2, .ne (.a 0) 1]) : CanonQ val :=
  by_way (.eq (.a 5) (.c 0)) (.is (.a 5) 0) (.ne (.a 5) 0) (by kernel_rfl) (by kernel_rfl) h
  (fun h => by_way (.eq (.a 6) (.c 0)) (.is (.a 6) 0) (.ne (.a 6) 0) (by kernel_rfl) (by kernel_rfl) h
  (fun h => by_way (.eq (.a 7) (.c 0)) (.is (.a 7) 0) (.ne (.a 7) 0) (by kernel_rfl) (by kernel_rfl) h
  (fun h => canonQ338 val h)
  (fun h => canonQ339 val h))
  (fun h => canonQ340 val h))
  (fun h => canonQSub68 val h)

theorem canonQSub66 (val : Nat → Int) (h : Holds val [.ge (.a 4) 0, .is (.a 3) 5, .ne (.a 3) 8, .ne (.a 3) 0, .is (.a 9) 32, .ne (.a 9) 16, .ne (.a 9) 8, .ne (.a 9) 4, .ne (.a 9) 2, .ne (.a 9) 1, .ne (.a 9) 0, .le (.a 8) 2147483647, .ge (.a 8) (-2147483648), .is (.a 0) 2, .ne (.a 0) 1]) : CanonQ val :=
  by_way (.lt (.a 4) (.c 16)) (.le (.a 4) 15) (.ge (.a 4) 16) (by kernel_rfl) (by kernel_rfl) h
  (fun h => canonQSub67 val h)
  (fun h => canonQ354 val h)

theorem canonQSub65 (val : Nat → Int) (h : Holds val [.is (.a 3) 5, .ne (.a 3) 8, .ne (.a 3) 0, .is (.a 9) 32, .ne (.a 9) 16, .ne (.a 9) 8, .ne (.a 9) 4, .ne (.a 9) 2, .ne (.a 9) 1, .ne (.a 9) 0, .le (.a 8) 2147483647, .ge (.a 8) (-2147483648), .is (.a 0) 2, .ne (.a 0) 1]) : CanonQ val :=
  by_way (.le (.c 0) (.a 4)) (.ge (.a 4) 0) (.le (.a 4) (-1)) (by kernel_rfl) (by kernel_rfl) h
  (fun h => canonQSub66 val h)
  (fun h => canonQ355 val h)

theorem canonQSub64 (val : Nat → Int) (h : Holds val [.ne (.a 3) 8, .ne (.a 3) 0, .is (.a 9) 32, .ne (.a 9) 16, .ne (.a 9) 8, .ne (.a 9) 4, .ne (.a 9) 2, .ne (.a 9) 1, .ne (.a 9) 0, .le (.a 8) 2147483647, .ge (.a 8) (-2147483648), .is (.a 0) 2, .ne (.a 0) 1]) : CanonQ val :=
  by_way (.eq (.a 3) (.c 5)) (.is (.a 3) 5) (.ne (.a 3) 5) (by kernel_rfl) (by kernel_rfl) h
  (fun h => canonQSub65 val h)
  (fun h => canonQ356 val h)

theorem canonQSub63 (val : Nat → Int) (h : Holds val [.ne (.a 3) 0, .is (.a 9) 32, .ne (.a 9) 16, .ne (.a 9) 8, .ne (.a 9) 4, .ne (.a 9) 2, .ne (.a 9) 1, .ne (.a 9) 0, .le (.a 8) 2147483647, .ge (.a 8) (-2147483648), .is (.a 0) 2, .ne (.a 0) 1]) : CanonQ val :=
  by_way (.eq (.a 3) (.c 8)) (.is (.a 3) 8) (.ne (.a 3) 8) (by kernel_rfl) (by kernel_rfl) h
  (fun h => by_way (.eq (.a 4) (.c 0)) (.is (.a 4) 0) (.ne (.a 4) 0) (by kernel_rfl) (by kernel_rfl) h
  (fun h => by_way (.eq (.a 5) (.c 0)) (.is (.a 5) 0) (.ne (.a 5) 0) (by kernel_rfl) (by kernel_rfl) h
  (fun h => by_way (.eq (.a 6) (.c 0)) (.is (.a 6) 0) (.ne (.a 6) 0) (by kernel_rfl) (by kernel_rfl) h
  (fun h => by_way (.eq (.a 7) (.c 0)) (.is (.a 7) 0) (.ne (.a 7) 0) (by kernel_rfl) (by kernel_rfl) h
  (fun h => canonQ326 val h)
  (fun h => canonQ327 val h))
  (fun h => canonQ328 val h))
  (fun h => by_way (.eq (.a 5) (.c 5)) (.is (.a 5) 5) (.ne (.a 5) 5) (by kernel_rfl) (by kernel_rfl) h
  (fun h => by_way (.le (.c 0) (.a 6)) (.ge (.a 6) 0) (.le (.a 6) (-1)) (by kernel_rfl) (by kernel_rfl) h
  (fun h => by_way (.lt (.a 6) (.c 16)) (.le (.a 6) 15) (.ge (.a 6) 16) (by kernel_rfl) (by kernel_rfl) h
  (fun h => by_way (.eq (.a 7) (.c 1)) (.is (.a 7) 1) (.ne (.a 7) 1) (by kernel_rfl) (by kernel_rfl) h
  (fun h => canonQ329 val h)
  (fun h => by_way (.eq (.a 7) (.c 2)) (.is (.a 7) 2) (.ne (.a 7) 2) (by kernel_rfl) (by kernel_rfl) h
  (fun h => canonQ330 val h)
  (fun h => by_way (.eq (.a 7) (.c 4)) (.is (.a 7) 4) (.ne (.a 7) 4) (by kernel_rfl) (by kernel_rfl) h
  (fun h => canonQ331 val h)
  (fun h => by_way (.eq (.a 7) (.c 8)) (.is (.a 7) 8) (.ne (.a 7) 8) (by kernel_rfl) (by kernel_rfl) h
  (fun h => canonQ332 val h)
  (fun h => canonQ333 val h)))))
  (fun h => canonQ334 val h))
  (fun h => canonQ335 val h))
  (fun h => canonQ336 val h)))
  (fun h => canonQ337 val h))
  (fun h => canonQSub64 val h)

theorem canonQSub60 (val : Nat → Int) (h : Holds val [.is (.a 9) 32, .ne (.a 9) 16, .ne (.a 9) 8, .ne (.a 9) 4, .ne (.a 9) 2, .ne (.a 9) 1, .ne (.a 9) 0, .le (.a 8) 2147483647, .ge (.a 8) (-2147483648), .is (.a 0) 2, .ne (.a 0) 1]) : CanonQ val :=
  by_way (.eq (.a 3) (.c 0)) (.is (.a 3) 0) (.ne (.a 3) 0) (by kernel_rfl) (by kernel_rfl) h
  (fun h => canonQSub61 val h)
  (fun h => canonQSub63 val h)

theorem canonQSub59 (val : Nat → Int) (h : Holds val [.ne (.a 9) 16, .ne (.a 9) 8, .ne (.a 9) 4, .ne (.a 9) 2, .ne (.a 9) 1, .ne (.a 9) 0, .le (.a 8) 2147483647, .ge (.a 8) (-2147483648), .is (.a 0) 2, .ne (.a 0) 1]) : CanonQ val :=
  by_way (.eq (.a 9) (.c 32)) (.is (.a 9) 32) (.ne (.a 9) 32) (by kernel_rfl) (by kernel_rfl) h
  (fun h => canonQSub60 val h)
  (fun h => canonQ357 val h)

theorem canonQ (val : Nat → Int) : CanonQ val :=
  have h : Holds val [] := holds_nil
  by_way (.eq (.a 0) (.c 1)) (.is (.a 0) 1) (.ne (.a 0) 1) (by kernel_rfl) (by kernel_rfl) h
  (fun h => canonQSub0 val h)
  (fun h => by_way (.eq (.a 0) (.c 2)) (.is (.a 0) 2) (.ne (.a 0) 2) (by kernel_rfl) (by kernel_rfl) h
  (fun h => by_way (.lt (.a 8) (.c (-2147483648))) (.le (.a 8) (-2147483649)) (.ge (.a 8) (-2147483648)) (by kernel_rfl) (by kernel_rfl) h
  (fun h => canonQ26 val h)
  (fun h => by_way (.lt (.c 2147483647) (.a 8)) (.ge (.a 8) 2147483648) (.le (.a 8) 2147483647) (by kernel_rfl) (by kernel_rfl) h
  (fun h => canonQ27 val h)
  (fun h => by_way (.eq (.a 9) (.c 0)) (.is (.a 9) 0) (.ne (.a 9) 0) (by kernel_rfl) (by kernel_rfl) h
  (fun h => canonQSub5 val h)
  (fun h => by_way (.eq (.a 9) (.c 1)) (.is (.a 9) 1) (.ne (.a 9) 1) (by kernel_rfl) (by kernel_rfl) h
  (fun h => canonQSub14 val h)
  (fun h => by_way (.eq (.a 9) (.c 2)) (.is (.a 9) 2) (.ne (.a 9) 2) (by kernel_rfl) (by kernel_rfl) h
  (fun h => canonQSub23 val h)
  (fun h => by_way (.eq (.a 9) (.c 4)) (.is (.a 9) 4) (.ne (.a 9) 4) (by kernel_rfl) (by kernel_rfl) h
  (fun h => canonQSub32 val h)
  (fun h => by_way (.eq (.a 9) (.c 8)) (.is (.a 9) 8) (.ne (.a 9) 8) (by kernel_rfl) (by kernel_rfl) h
  (fun h => canonQSub41 val h)
  (fun h => by_way (.eq (.a 9) (.c 16)) (.is (.a 9) 16) (.ne (.a 9) 16) (by kernel_rfl) (by kernel_rfl) h
  (fun h => canonQSub50 val h)
  (fun h => canonQSub59 val h)))))))))
  (fun h => by_way (.eq (.a 0) (.c 3)) (.is (.a 0) 3) (.ne (.a 0) 3) (by kernel_rfl) (by kernel_rfl) h
  (fun h => canonQ358 val h)
  (fun h => by_way (.eq (.a 0) (.c 4)) (.is (.a 0) 4) (.ne (.a 0) 4) (by kernel_rfl) (by kernel_rfl) h
  (fun h => by_way (.lt (.a 10) (.c (-2147483648))) (.le (.a 10) (-2147483649)) (.ge (.a 10) (-2147483648)) (by kernel_rfl) (by kernel_rfl) h
  (fun h => canonQ359 val h)
  (fun h => by_way (.lt (.c 2147483647) (.a 10)) (.ge (.a 10) 2147483648) (.le (.a 10) 2147483647) (by kernel_rfl) (by kernel_rfl) h
  (fun h => canonQ360 val h)
  (fun h => canonQ361 val h)))
  (fun h => canonQ362 val h))))

end Go.Proofs.Ytclhjdddakmafaa.Tab
