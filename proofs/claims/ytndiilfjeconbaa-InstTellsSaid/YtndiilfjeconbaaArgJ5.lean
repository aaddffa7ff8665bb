/-
  Ways through the code, part 5.
-/
import Derived.Test.YtndiilfjeconbaaArgJH
namespace Go.Proofs.Ytndiilfjeconbaa.Tab
open Go.Sim
set_option maxRecDepth 100000
set_option linter.unusedSimpArgs false
set_option maxHeartbeats 4000000

theorem argJ_180 (val : Nat → Int) (h : Holds val [tN 5 5, tN 5 0, .le (.a 4) 15, .ge (.a 4) 0, tI 3 5, tN 3 8, tN 3 0, tI 9 16, tN 9 8, tN 9 4, tN 9 2, tN 9 1, tN 9 0, .le (.a 8) 2147483647, .ge (.a 8) (-2147483648), tI 0 2, tN 0 1]) : ArgJ val := lf h [(.c 0), (.c 0), (.c 0), (.c 0), (.c 0), (.c 0), (.c 0), (.c 0), (.c 0), (.c 0), (.c 0), (.c 2), (.c 0)] (by kernel_rfl)

theorem argJ_181 (val : Nat → Int) (h : Holds val [.ge (.a 4) 16, .ge (.a 4) 0, tI 3 5, tN 3 8, tN 3 0, tI 9 16, tN 9 8, tN 9 4, tN 9 2, tN 9 1, tN 9 0, .le (.a 8) 2147483647, .ge (.a 8) (-2147483648), tI 0 2, tN 0 1]) : ArgJ val := lf h [(.c 0), (.c 0), (.c 0), (.c 0), (.c 0), (.c 0), (.c 0), (.c 0), (.c 0), (.c 0), (.c 0), (.c 2), (.c 0)] (by kernel_rfl)

theorem argJ_182 (val : Nat → Int) (h : Holds val [.le (.a 4) (-1), tI 3 5, tN 3 8, tN 3 0, tI 9 16, tN 9 8, tN 9 4, tN 9 2, tN 9 1, tN 9 0, .le (.a 8) 2147483647, .ge (.a 8) (-2147483648), tI 0 2, tN 0 1]) : ArgJ val := lf h [(.c 0), (.c 0), (.c 0), (.c 0), (.c 0), (.c 0), (.c 0), (.c 0), (.c 0), (.c 0), (.c 0), (.c 2), (.c 0)] (by kernel_rfl)

theorem argJ_183 (val : Nat → Int) (h : Holds val [tN 3 5, tN 3 8, tN 3 0, tI 9 16, tN 9 8, tN 9 4, tN 9 2, tN 9 1, tN 9 0, .le (.a 8) 2147483647, .ge (.a 8) (-2147483648), tI 0 2, tN 0 1]) : ArgJ val := lf h [(.c 0), (.c 0), (.c 0), (.c 0), (.c 0), (.c 0), (.c 0), (.c 0), (.c 0), (.c 0), (.c 0), (.c 2), (.c 0)] (by kernel_rfl)

theorem argJ_184 (val : Nat → Int) (h : Holds val [tI 5 0, tI 4 0, tI 3 0, tI 9 32, tN 9 16, tN 9 8, tN 9 4, tN 9 2, tN 9 1, tN 9 0, .le (.a 8) 2147483647, .ge (.a 8) (-2147483648), tI 0 2, tN 0 1]) : ArgJ val := by_eq 6 0 h (fun h => by_eq 7 0 h (fun h => lf h [(.a 0), (.c 0), (.c 0), (.a 3), (.a 4), (.a 5), (.a 6), (.a 7), (.a 8), (.a 9), (.c 0), (.c 0), (.a 9)] (by kernel_rfl))
 (fun h => lf h [(.c 0), (.c 0), (.c 0), (.c 0), (.c 0), (.c 0), (.c 0), (.c 0), (.c 0), (.c 0), (.c 0), (.c 2), (.c 0)] (by kernel_rfl)))
 (fun h => lf h [(.c 0), (.c 0), (.c 0), (.c 0), (.c 0), (.c 0), (.c 0), (.c 0), (.c 0), (.c 0), (.c 0), (.c 2), (.c 0)] (by kernel_rfl))

theorem argJ_185 (val : Nat → Int) (h : Holds val [tI 6 4, .at (.or (.eq (.a 7) (.c 1)) (.or (.eq (.a 7) (.c 2)) (.or (.eq (.a 7) (.c 4)) (.or (.eq (.a 7) (.c 8)) .ff)))) true, .le (.a 6) 15, .ge (.a 6) 0, tI 5 5, tN 5 0, tI 4 0, tI 3 0, tI 9 32, tN 9 16, tN 9 8, tN 9 4, tN 9 2, tN 9 1, tN 9 0, .le (.a 8) 2147483647, .ge (.a 8) (-2147483648), tI 0 2, tN 0 1]) : ArgJ val := by_eq 7 1 h (fun h => lf h [(.a 0), (.c 0), (.c 0), (.a 5), (.a 6), (.c 0), (.c 0), (.c 0), (.a 8), (.a 9), (.c 0), (.c 0), (.a 9)] (by kernel_rfl))
 (fun h => by_way (.eq (.c 2) (.a 7)) (tI 7 2) (tN 7 2) rfl rfl h (fun h => lf h [(.c 0), (.c 0), (.c 0), (.c 0), (.c 0), (.c 0), (.c 0), (.c 0), (.c 0), (.c 0), (.c 0), (.c 2), (.c 0)] (by kernel_rfl))
 (fun h => by_way (.eq (.c 4) (.a 7)) (tI 7 4) (tN 7 4) rfl rfl h (fun h => lf h [(.c 0), (.c 0), (.c 0), (.c 0), (.c 0), (.c 0), (.c 0), (.c 0), (.c 0), (.c 0), (.c 0), (.c 2), (.c 0)] (by kernel_rfl))
 (fun h => by_way (.eq (.c 8) (.a 7)) (tI 7 8) (tN 7 8) rfl rfl h (fun h => lf h [(.c 0), (.c 0), (.c 0), (.c 0), (.c 0), (.c 0), (.c 0), (.c 0), (.c 0), (.c 0), (.c 0), (.c 2), (.c 0)] (by kernel_rfl))
 (fun h => lf h [(.c 0), (.c 0), (.c 0), (.c 0), (.c 0), (.c 0), (.c 0), (.c 0), (.c 0), (.c 0), (.c 0), (.c 2), (.c 0)] (by kernel_rfl)))))

theorem argJ_186 (val : Nat → Int) (h : Holds val [tN 6 4, .at (.or (.eq (.a 7) (.c 1)) (.or (.eq (.a 7) (.c 2)) (.or (.eq (.a 7) (.c 4)) (.or (.eq (.a 7) (.c 8)) .ff)))) true, .le (.a 6) 15, .ge (.a 6) 0, tI 5 5, tN 5 0, tI 4 0, tI 3 0, tI 9 32, tN 9 16, tN 9 8, tN 9 4, tN 9 2, tN 9 1, tN 9 0, .le (.a 8) 2147483647, .ge (.a 8) (-2147483648), tI 0 2, tN 0 1]) : ArgJ val := by_eq 7 1 h (fun h => lf h [(.a 0), (.c 0), (.c 0), (.a 5), (.a 6), (.c 0), (.c 0), (.c 0), (.a 8), (.a 9), (.c 0), (.c 0), (.a 9)] (by kernel_rfl))
 (fun h => by_way (.eq (.c 2) (.a 7)) (tI 7 2) (tN 7 2) rfl rfl h (fun h => lf h [(.a 0), (.c 0), (.c 0), (.a 3), (.a 4), (.a 5), (.a 6), (.a 7), (.a 8), (.a 9), (.c 0), (.c 0), (.a 9)] (by kernel_rfl))
 (fun h => by_way (.eq (.c 4) (.a 7)) (tI 7 4) (tN 7 4) rfl rfl h (fun h => lf h [(.a 0), (.c 0), (.c 0), (.a 3), (.a 4), (.a 5), (.a 6), (.a 7), (.a 8), (.a 9), (.c 0), (.c 0), (.a 9)] (by kernel_rfl))
 (fun h => by_way (.eq (.c 8) (.a 7)) (tI 7 8) (tN 7 8) rfl rfl h (fun h => lf h [(.a 0), (.c 0), (.c 0), (.a 3), (.a 4), (.a 5), (.a 6), (.a 7), (.a 8), (.a 9), (.c 0), (.c 0), (.a 9)] (by kernel_rfl))
 (fun h => lf h [(.c 0), (.c 0), (.c 0), (.c 0), (.c 0), (.c 0), (.c 0), (.c 0), (.c 0), (.c 0), (.c 0), (.c 2), (.c 0)] (by kernel_rfl)))))

theorem argJ_187 (val : Nat → Int) (h : Holds val [tI 7 1, .at (.or (.eq (.a 7) (.c 1)) (.or (.eq (.a 7) (.c 2)) (.or (.eq (.a 7) (.c 4)) (.or (.eq (.a 7) (.c 8)) .ff)))) false, .le (.a 6) 15, .ge (.a 6) 0, tI 5 5, tN 5 0, tI 4 0, tI 3 0, tI 9 32, tN 9 16, tN 9 8, tN 9 4, tN 9 2, tN 9 1, tN 9 0, .le (.a 8) 2147483647, .ge (.a 8) (-2147483648), tI 0 2, tN 0 1]) : ArgJ val := by_eq 6 4 h (fun h => lf h [(.a 0), (.c 0), (.c 0), (.a 5), (.a 6), (.c 0), (.c 0), (.c 0), (.a 8), (.a 9), (.c 0), (.c 0), (.a 9)] (by kernel_rfl))
 (fun h => lf h [(.a 0), (.c 0), (.c 0), (.a 5), (.a 6), (.c 0), (.c 0), (.c 0), (.a 8), (.a 9), (.c 0), (.c 0), (.a 9)] (by kernel_rfl))

theorem argJ_188 (val : Nat → Int) (h : Holds val [tI 7 2, tN 7 1, .at (.or (.eq (.a 7) (.c 1)) (.or (.eq (.a 7) (.c 2)) (.or (.eq (.a 7) (.c 4)) (.or (.eq (.a 7) (.c 8)) .ff)))) false, .le (.a 6) 15, .ge (.a 6) 0, tI 5 5, tN 5 0, tI 4 0, tI 3 0, tI 9 32, tN 9 16, tN 9 8, tN 9 4, tN 9 2, tN 9 1, tN 9 0, .le (.a 8) 2147483647, .ge (.a 8) (-2147483648), tI 0 2, tN 0 1]) : ArgJ val := by_eq 6 4 h (fun h => lf h [(.c 0), (.c 0), (.c 0), (.c 0), (.c 0), (.c 0), (.c 0), (.c 0), (.c 0), (.c 0), (.c 0), (.c 2), (.c 0)] (by kernel_rfl))
 (fun h => lf h [(.a 0), (.c 0), (.c 0), (.a 3), (.a 4), (.a 5), (.a 6), (.a 7), (.a 8), (.a 9), (.c 0), (.c 0), (.a 9)] (by kernel_rfl))

theorem argJ_189 (val : Nat → Int) (h : Holds val [tN 7 2, tN 7 1, .at (.or (.eq (.a 7) (.c 1)) (.or (.eq (.a 7) (.c 2)) (.or (.eq (.a 7) (.c 4)) (.or (.eq (.a 7) (.c 8)) .ff)))) false, .le (.a 6) 15, .ge (.a 6) 0, tI 5 5, tN 5 0, tI 4 0, tI 3 0, tI 9 32, tN 9 16, tN 9 8, tN 9 4, tN 9 2, tN 9 1, tN 9 0, .le (.a 8) 2147483647, .ge (.a 8) (-2147483648), tI 0 2, tN 0 1]) : ArgJ val := by_way (.eq (.c 4) (.a 7)) (tI 7 4) (tN 7 4) rfl rfl h (fun h => by_eq 6 4 h (fun h => lf h [(.c 0), (.c 0), (.c 0), (.c 0), (.c 0), (.c 0), (.c 0), (.c 0), (.c 0), (.c 0), (.c 0), (.c 2), (.c 0)] (by kernel_rfl))
 (fun h => lf h [(.a 0), (.c 0), (.c 0), (.a 3), (.a 4), (.a 5), (.a 6), (.a 7), (.a 8), (.a 9), (.c 0), (.c 0), (.a 9)] (by kernel_rfl)))
 (fun h => by_way (.eq (.c 8) (.a 7)) (tI 7 8) (tN 7 8) rfl rfl h (fun h => by_eq 6 4 h (fun h => lf h [(.c 0), (.c 0), (.c 0), (.c 0), (.c 0), (.c 0), (.c 0), (.c 0), (.c 0), (.c 0), (.c 0), (.c 2), (.c 0)] (by kernel_rfl))
 (fun h => lf h [(.a 0), (.c 0), (.c 0), (.a 3), (.a 4), (.a 5), (.a 6), (.a 7), (.a 8), (.a 9), (.c 0), (.c 0), (.a 9)] (by kernel_rfl)))
 (fun h => lf h [(.c 0), (.c 0), (.c 0), (.c 0), (.c 0), (.c 0), (.c 0), (.c 0), (.c 0), (.c 0), (.c 0), (.c 2), (.c 0)] (by kernel_rfl)))

theorem argJ_190 (val : Nat → Int) (h : Holds val [.ge (.a 6) 16, .ge (.a 6) 0, tI 5 5, tN 5 0, tI 4 0, tI 3 0, tI 9 32, tN 9 16, tN 9 8, tN 9 4, tN 9 2, tN 9 1, tN 9 0, .le (.a 8) 2147483647, .ge (.a 8) (-2147483648), tI 0 2, tN 0 1]) : ArgJ val := lf h [(.c 0), (.c 0), (.c 0), (.c 0), (.c 0), (.c 0), (.c 0), (.c 0), (.c 0), (.c 0), (.c 0), (.c 2), (.c 0)] (by kernel_rfl)

theorem argJ_191 (val : Nat → Int) (h : Holds val [.le (.a 6) (-1), tI 5 5, tN 5 0, tI 4 0, tI 3 0, tI 9 32, tN 9 16, tN 9 8, tN 9 4, tN 9 2, tN 9 1, tN 9 0, .le (.a 8) 2147483647, .ge (.a 8) (-2147483648), tI 0 2, tN 0 1]) : ArgJ val := lf h [(.c 0), (.c 0), (.c 0), (.c 0), (.c 0), (.c 0), (.c 0), (.c 0), (.c 0), (.c 0), (.c 0), (.c 2), (.c 0)] (by kernel_rfl)

theorem argJ_192 (val : Nat → Int) (h : Holds val [tN 5 5, tN 5 0, tI 4 0, tI 3 0, tI 9 32, tN 9 16, tN 9 8, tN 9 4, tN 9 2, tN 9 1, tN 9 0, .le (.a 8) 2147483647, .ge (.a 8) (-2147483648), tI 0 2, tN 0 1]) : ArgJ val := lf h [(.c 0), (.c 0), (.c 0), (.c 0), (.c 0), (.c 0), (.c 0), (.c 0), (.c 0), (.c 0), (.c 0), (.c 2), (.c 0)] (by kernel_rfl)

theorem argJ_193 (val : Nat → Int) (h : Holds val [tN 4 0, tI 3 0, tI 9 32, tN 9 16, tN 9 8, tN 9 4, tN 9 2, tN 9 1, tN 9 0, .le (.a 8) 2147483647, .ge (.a 8) (-2147483648), tI 0 2, tN 0 1]) : ArgJ val := lf h [(.c 0), (.c 0), (.c 0), (.c 0), (.c 0), (.c 0), (.c 0), (.c 0), (.c 0), (.c 0), (.c 0), (.c 2), (.c 0)] (by kernel_rfl)

theorem argJ_194 (val : Nat → Int) (h : Holds val [tI 5 0, tI 4 0, tI 3 8, tN 3 0, tI 9 32, tN 9 16, tN 9 8, tN 9 4, tN 9 2, tN 9 1, tN 9 0, .le (.a 8) 2147483647, .ge (.a 8) (-2147483648), tI 0 2, tN 0 1]) : ArgJ val := by_eq 6 0 h (fun h => by_eq 7 0 h (fun h => lf h [(.a 0), (.c 0), (.c 0), (.a 3), (.a 4), (.a 5), (.a 6), (.a 7), (.a 8), (.a 9), (.c 0), (.c 0), (.a 9)] (by kernel_rfl))
 (fun h => lf h [(.c 0), (.c 0), (.c 0), (.c 0), (.c 0), (.c 0), (.c 0), (.c 0), (.c 0), (.c 0), (.c 0), (.c 2), (.c 0)] (by kernel_rfl)))
 (fun h => lf h [(.c 0), (.c 0), (.c 0), (.c 0), (.c 0), (.c 0), (.c 0), (.c 0), (.c 0), (.c 0), (.c 0), (.c 2), (.c 0)] (by kernel_rfl))

theorem argJ_195 (val : Nat → Int) (h : Holds val [.at (.or (.eq (.a 7) (.c 1)) (.or (.eq (.a 7) (.c 2)) (.or (.eq (.a 7) (.c 4)) (.or (.eq (.a 7) (.c 8)) .ff)))) true, .le (.a 6) 15, .ge (.a 6) 0, tI 5 5, tN 5 0, tI 4 0, tI 3 8, tN 3 0, tI 9 32, tN 9 16, tN 9 8, tN 9 4, tN 9 2, tN 9 1, tN 9 0, .le (.a 8) 2147483647, .ge (.a 8) (-2147483648), tI 0 2, tN 0 1]) : ArgJ val := by_way (.eq (.c 1) (.a 7)) (tI 7 1) (tN 7 1) rfl rfl h (fun h => lf h [(.c 0), (.c 0), (.c 0), (.c 0), (.c 0), (.c 0), (.c 0), (.c 0), (.c 0), (.c 0), (.c 0), (.c 2), (.c 0)] (by kernel_rfl))
 (fun h => by_way (.eq (.c 2) (.a 7)) (tI 7 2) (tN 7 2) rfl rfl h (fun h => lf h [(.c 0), (.c 0), (.c 0), (.c 0), (.c 0), (.c 0), (.c 0), (.c 0), (.c 0), (.c 0), (.c 0), (.c 2), (.c 0)] (by kernel_rfl))
 (fun h => by_way (.eq (.c 4) (.a 7)) (tI 7 4) (tN 7 4) rfl rfl h (fun h => lf h [(.c 0), (.c 0), (.c 0), (.c 0), (.c 0), (.c 0), (.c 0), (.c 0), (.c 0), (.c 0), (.c 0), (.c 2), (.c 0)] (by kernel_rfl))
 (fun h => by_way (.eq (.c 8) (.a 7)) (tI 7 8) (tN 7 8) rfl rfl h (fun h => lf h [(.c 0), (.c 0), (.c 0), (.c 0), (.c 0), (.c 0), (.c 0), (.c 0), (.c 0), (.c 0), (.c 0), (.c 2), (.c 0)] (by kernel_rfl))
 (fun h => lf h [(.c 0), (.c 0), (.c 0), (.c 0), (.c 0), (.c 0), (.c 0), (.c 0), (.c 0), (.c 0), (.c 0), (.c 2), (.c 0)] (by kernel_rfl)))))

theorem argJ_196 (val : Nat → Int) (h : Holds val [.at (.or (.eq (.a 7) (.c 1)) (.or (.eq (.a 7) (.c 2)) (.or (.eq (.a 7) (.c 4)) (.or (.eq (.a 7) (.c 8)) .ff)))) false, .le (.a 6) 15, .ge (.a 6) 0, tI 5 5, tN 5 0, tI 4 0, tI 3 8, tN 3 0, tI 9 32, tN 9 16, tN 9 8, tN 9 4, tN 9 2, tN 9 1, tN 9 0, .le (.a 8) 2147483647, .ge (.a 8) (-2147483648), tI 0 2, tN 0 1]) : ArgJ val := by_way (.eq (.c 1) (.a 7)) (tI 7 1) (tN 7 1) rfl rfl h (fun h => lf h [(.c 0), (.c 0), (.c 0), (.c 0), (.c 0), (.c 0), (.c 0), (.c 0), (.c 0), (.c 0), (.c 0), (.c 2), (.c 0)] (by kernel_rfl))
 (fun h => by_way (.eq (.c 2) (.a 7)) (tI 7 2) (tN 7 2) rfl rfl h (fun h => lf h [(.c 0), (.c 0), (.c 0), (.c 0), (.c 0), (.c 0), (.c 0), (.c 0), (.c 0), (.c 0), (.c 0), (.c 2), (.c 0)] (by kernel_rfl))
 (fun h => by_way (.eq (.c 4) (.a 7)) (tI 7 4) (tN 7 4) rfl rfl h (fun h => lf h [(.c 0), (.c 0), (.c 0), (.c 0), (.c 0), (.c 0), (.c 0), (.c 0), (.c 0), (.c 0), (.c 0), (.c 2), (.c 0)] (by kernel_rfl))
 (fun h => by_way (.eq (.c 8) (.a 7)) (tI 7 8) (tN 7 8) rfl rfl h (fun h => lf h [(.c 0), (.c 0), (.c 0), (.c 0), (.c 0), (.c 0), (.c 0), (.c 0), (.c 0), (.c 0), (.c 0), (.c 2), (.c 0)] (by kernel_rfl))
 (fun h => lf h [(.c 0), (.c 0), (.c 0), (.c 0), (.c 0), (.c 0), (.c 0), (.c 0), (.c 0), (.c 0), (.c 0), (.c 2), (.c 0)] (by kernel_rfl)))))

theorem argJ_197 (val : Nat → Int) (h : Holds val [.ge (.a 6) 16, .ge (.a 6) 0, tI 5 5, tN 5 0, tI 4 0, tI 3 8, tN 3 0, tI 9 32, tN 9 16, tN 9 8, tN 9 4, tN 9 2, tN 9 1, tN 9 0, .le (.a 8) 2147483647, .ge (.a 8) (-2147483648), tI 0 2, tN 0 1]) : ArgJ val := lf h [(.c 0), (.c 0), (.c 0), (.c 0), (.c 0), (.c 0), (.c 0), (.c 0), (.c 0), (.c 0), (.c 0), (.c 2), (.c 0)] (by kernel_rfl)

theorem argJ_198 (val : Nat → Int) (h : Holds val [.le (.a 6) (-1), tI 5 5, tN 5 0, tI 4 0, tI 3 8, tN 3 0, tI 9 32, tN 9 16, tN 9 8, tN 9 4, tN 9 2, tN 9 1, tN 9 0, .le (.a 8) 2147483647, .ge (.a 8) (-2147483648), tI 0 2, tN 0 1]) : ArgJ val := lf h [(.c 0), (.c 0), (.c 0), (.c 0), (.c 0), (.c 0), (.c 0), (.c 0), (.c 0), (.c 0), (.c 0), (.c 2), (.c 0)] (by kernel_rfl)

theorem argJ_199 (val : Nat → Int) (h : Holds val [tN 5 5, tN 5 0, tI 4 0, tI 3 8, tN 3 0, tI 9 32, tN 9 16, tN 9 8, tN 9 4, tN 9 2, tN 9 1, tN 9 0, .le (.a 8) 2147483647, .ge (.a 8) (-2147483648), tI 0 2, tN 0 1]) : ArgJ val := lf h [(.c 0), (.c 0), (.c 0), (.c 0), (.c 0), (.c 0), (.c 0), (.c 0), (.c 0), (.c 0), (.c 0), (.c 2), (.c 0)] (by kernel_rfl)

theorem argJ_200 (val : Nat → Int) (h : Holds val [tN 4 0, tI 3 8, tN 3 0, tI 9 32, tN 9 16, tN 9 8, tN 9 4, tN 9 2, tN 9 1, tN 9 0, .le (.a 8) 2147483647, .ge (.a 8) (-2147483648), tI 0 2, tN 0 1]) : ArgJ val := lf h [(.c 0), (.c 0), (.c 0), (.c 0), (.c 0), (.c 0), (.c 0), (.c 0), (.c 0), (.c 0), (.c 0), (.c 2), (.c 0)] (by kernel_rfl)

theorem argJ_201 (val : Nat → Int) (h : Holds val [tI 5 0, .le (.a 4) 15, .ge (.a 4) 0, tI 3 5, tN 3 8, tN 3 0, tI 9 32, tN 9 16, tN 9 8, tN 9 4, tN 9 2, tN 9 1, tN 9 0, .le (.a 8) 2147483647, .ge (.a 8) (-2147483648), tI 0 2, tN 0 1]) : ArgJ val := by_eq 6 0 h (fun h => by_eq 7 0 h (fun h => lf h [(.a 0), (.c 0), (.c 0), (.a 3), (.a 4), (.a 5), (.a 6), (.a 7), (.a 8), (.a 9), (.c 0), (.c 0), (.a 9)] (by kernel_rfl))
 (fun h => lf h [(.c 0), (.c 0), (.c 0), (.c 0), (.c 0), (.c 0), (.c 0), (.c 0), (.c 0), (.c 0), (.c 0), (.c 2), (.c 0)] (by kernel_rfl)))
 (fun h => lf h [(.c 0), (.c 0), (.c 0), (.c 0), (.c 0), (.c 0), (.c 0), (.c 0), (.c 0), (.c 0), (.c 0), (.c 2), (.c 0)] (by kernel_rfl))

theorem argJ_202 (val : Nat → Int) (h : Holds val [tI 6 4, .at (.or (.eq (.a 7) (.c 1)) (.or (.eq (.a 7) (.c 2)) (.or (.eq (.a 7) (.c 4)) (.or (.eq (.a 7) (.c 8)) .ff)))) true, .le (.a 6) 15, .ge (.a 6) 0, tI 5 5, tN 5 0, .le (.a 4) 15, .ge (.a 4) 0, tI 3 5, tN 3 8, tN 3 0, tI 9 32, tN 9 16, tN 9 8, tN 9 4, tN 9 2, tN 9 1, tN 9 0, .le (.a 8) 2147483647, .ge (.a 8) (-2147483648), tI 0 2, tN 0 1]) : ArgJ val := by_eq 7 1 h (fun h => by_eq 4 4 h (fun h => lf h [(.c 0), (.c 0), (.c 0), (.c 0), (.c 0), (.c 0), (.c 0), (.c 0), (.c 0), (.c 0), (.c 0), (.c 2), (.c 0)] (by kernel_rfl))
 (fun h => lf h [(.a 0), (.c 0), (.c 0), (.a 5), (.a 6), (.a 3), (.a 4), (.a 7), (.a 8), (.a 9), (.c 0), (.c 0), (.a 9)] (by kernel_rfl)))
 (fun h => by_way (.eq (.c 2) (.a 7)) (tI 7 2) (tN 7 2) rfl rfl h (fun h => lf h [(.c 0), (.c 0), (.c 0), (.c 0), (.c 0), (.c 0), (.c 0), (.c 0), (.c 0), (.c 0), (.c 0), (.c 2), (.c 0)] (by kernel_rfl))
 (fun h => by_way (.eq (.c 4) (.a 7)) (tI 7 4) (tN 7 4) rfl rfl h (fun h => lf h [(.c 0), (.c 0), (.c 0), (.c 0), (.c 0), (.c 0), (.c 0), (.c 0), (.c 0), (.c 0), (.c 0), (.c 2), (.c 0)] (by kernel_rfl))
 (fun h => by_way (.eq (.c 8) (.a 7)) (tI 7 8) (tN 7 8) rfl rfl h (fun h => lf h [(.c 0), (.c 0), (.c 0), (.c 0), (.c 0), (.c 0), (.c 0), (.c 0), (.c 0), (.c 0), (.c 0), (.c 2), (.c 0)] (by kernel_rfl))
 (fun h => lf h [(.c 0), (.c 0), (.c 0), (.c 0), (.c 0), (.c 0), (.c 0), (.c 0), (.c 0), (.c 0), (.c 0), (.c 2), (.c 0)] (by kernel_rfl)))))

theorem argJ_203 (val : Nat → Int) (h : Holds val [tN 6 4, .at (.or (.eq (.a 7) (.c 1)) (.or (.eq (.a 7) (.c 2)) (.or (.eq (.a 7) (.c 4)) (.or (.eq (.a 7) (.c 8)) .ff)))) true, .le (.a 6) 15, .ge (.a 6) 0, tI 5 5, tN 5 0, .le (.a 4) 15, .ge (.a 4) 0, tI 3 5, tN 3 8, tN 3 0, tI 9 32, tN 9 16, tN 9 8, tN 9 4, tN 9 2, tN 9 1, tN 9 0, .le (.a 8) 2147483647, .ge (.a 8) (-2147483648), tI 0 2, tN 0 1]) : ArgJ val := by_eq 7 1 h (fun h => lf h [(.a 0), (.c 0), (.c 0), (.a 3), (.a 4), (.a 5), (.a 6), (.a 7), (.a 8), (.a 9), (.c 0), (.c 0), (.a 9)] (by kernel_rfl))
 (fun h => by_way (.eq (.c 2) (.a 7)) (tI 7 2) (tN 7 2) rfl rfl h (fun h => lf h [(.a 0), (.c 0), (.c 0), (.a 3), (.a 4), (.a 5), (.a 6), (.a 7), (.a 8), (.a 9), (.c 0), (.c 0), (.a 9)] (by kernel_rfl))
 (fun h => by_way (.eq (.c 4) (.a 7)) (tI 7 4) (tN 7 4) rfl rfl h (fun h => lf h [(.a 0), (.c 0), (.c 0), (.a 3), (.a 4), (.a 5), (.a 6), (.a 7), (.a 8), (.a 9), (.c 0), (.c 0), (.a 9)] (by kernel_rfl))
 (fun h => by_way (.eq (.c 8) (.a 7)) (tI 7 8) (tN 7 8) rfl rfl h (fun h => lf h [(.a 0), (.c 0), (.c 0), (.a 3), (.a 4), (.a 5), (.a 6), (.a 7), (.a 8), (.a 9), (.c 0), (.c 0), (.a 9)] (by kernel_rfl))
 (fun h => lf h [(.c 0), (.c 0), (.c 0), (.c 0), (.c 0), (.c 0), (.c 0), (.c 0), (.c 0), (.c 0), (.c 0), (.c 2), (.c 0)] (by kernel_rfl)))))

theorem argJ_204 (val : Nat → Int) (h : Holds val [tI 7 1, .at (.or (.eq (.a 7) (.c 1)) (.or (.eq (.a 7) (.c 2)) (.or (.eq (.a 7) (.c 4)) (.or (.eq (.a 7) (.c 8)) .ff)))) false, .le (.a 6) 15, .ge (.a 6) 0, tI 5 5, tN 5 0, .le (.a 4) 15, .ge (.a 4) 0, tI 3 5, tN 3 8, tN 3 0, tI 9 32, tN 9 16, tN 9 8, tN 9 4, tN 9 2, tN 9 1, tN 9 0, .le (.a 8) 2147483647, .ge (.a 8) (-2147483648), tI 0 2, tN 0 1]) : ArgJ val := by_eq 6 4 h (fun h => by_eq 4 4 h (fun h => lf h [(.c 0), (.c 0), (.c 0), (.c 0), (.c 0), (.c 0), (.c 0), (.c 0), (.c 0), (.c 0), (.c 0), (.c 2), (.c 0)] (by kernel_rfl))
 (fun h => lf h [(.a 0), (.c 0), (.c 0), (.a 5), (.a 6), (.a 3), (.a 4), (.a 7), (.a 8), (.a 9), (.c 0), (.c 0), (.a 9)] (by kernel_rfl)))
 (fun h => lf h [(.a 0), (.c 0), (.c 0), (.a 3), (.a 4), (.a 5), (.a 6), (.a 7), (.a 8), (.a 9), (.c 0), (.c 0), (.a 9)] (by kernel_rfl))

theorem argJ_205 (val : Nat → Int) (h : Holds val [tI 7 2, tN 7 1, .at (.or (.eq (.a 7) (.c 1)) (.or (.eq (.a 7) (.c 2)) (.or (.eq (.a 7) (.c 4)) (.or (.eq (.a 7) (.c 8)) .ff)))) false, .le (.a 6) 15, .ge (.a 6) 0, tI 5 5, tN 5 0, .le (.a 4) 15, .ge (.a 4) 0, tI 3 5, tN 3 8, tN 3 0, tI 9 32, tN 9 16, tN 9 8, tN 9 4, tN 9 2, tN 9 1, tN 9 0, .le (.a 8) 2147483647, .ge (.a 8) (-2147483648), tI 0 2, tN 0 1]) : ArgJ val := by_eq 6 4 h (fun h => lf h [(.c 0), (.c 0), (.c 0), (.c 0), (.c 0), (.c 0), (.c 0), (.c 0), (.c 0), (.c 0), (.c 0), (.c 2), (.c 0)] (by kernel_rfl))
 (fun h => lf h [(.a 0), (.c 0), (.c 0), (.a 3), (.a 4), (.a 5), (.a 6), (.a 7), (.a 8), (.a 9), (.c 0), (.c 0), (.a 9)] (by kernel_rfl))

theorem argJ_206 (val : Nat → Int) (h : Holds val [tN 7 2, tN 7 1, .at (.or (.eq (.a 7) (.c 1)) (.or (.eq (.a 7) (.c 2)) (.or (.eq (.a 7) (.c 4)) (.or (.eq (.a 7) (.c 8)) .ff)))) false, .le (.a 6) 15, .ge (.a 6) 0, tI 5 5, tN 5 0, .le (.a 4) 15, .ge (.a 4) 0, tI 3 5, tN 3 8, tN 3 0, tI 9 32, tN 9 16, tN 9 8, tN 9 4, tN 9 2, tN 9 1, tN 9 0, .le (.a 8) 2147483647, .ge (.a 8) (-2147483648), tI 0 2, tN 0 1]) : ArgJ val := by_way (.eq (.c 4) (.a 7)) (tI 7 4) (tN 7 4) rfl rfl h (fun h => by_eq 6 4 h (fun h => lf h [(.c 0), (.c 0), (.c 0), (.c 0), (.c 0), (.c 0), (.c 0), (.c 0), (.c 0), (.c 0), (.c 0), (.c 2), (.c 0)] (by kernel_rfl))
 (fun h => lf h [(.a 0), (.c 0), (.c 0), (.a 3), (.a 4), (.a 5), (.a 6), (.a 7), (.a 8), (.a 9), (.c 0), (.c 0), (.a 9)] (by kernel_rfl)))
 (fun h => by_way (.eq (.c 8) (.a 7)) (tI 7 8) (tN 7 8) rfl rfl h (fun h => by_eq 6 4 h (fun h => lf h [(.c 0), (.c 0), (.c 0), (.c 0), (.c 0), (.c 0), (.c 0), (.c 0), (.c 0), (.c 0), (.c 0), (.c 2), (.c 0)] (by kernel_rfl))
 (fun h => lf h [(.a 0), (.c 0), (.c 0), (.a 3), (.a 4), (.a 5), (.a 6), (.a 7), (.a 8), (.a 9), (.c 0), (.c 0), (.a 9)] (by kernel_rfl)))
 (fun h => lf h [(.c 0), (.c 0), (.c 0), (.c 0), (.c 0), (.c 0), (.c 0), (.c 0), (.c 0), (.c 0), (.c 0), (.c 2), (.c 0)] (by kernel_rfl)))

theorem argJ_207 (val : Nat → Int) (h : Holds val [.ge (.a 6) 16, .ge (.a 6) 0, tI 5 5, tN 5 0, .le (.a 4) 15, .ge (.a 4) 0, tI 3 5, tN 3 8, tN 3 0, tI 9 32, tN 9 16, tN 9 8, tN 9 4, tN 9 2, tN 9 1, tN 9 0, .le (.a 8) 2147483647, .ge (.a 8) (-2147483648), tI 0 2, tN 0 1]) : ArgJ val := lf h [(.c 0), (.c 0), (.c 0), (.c 0), (.c 0), (.c 0), (.c 0), (.c 0), (.c 0), (.c 0), (.c 0), (.c 2), (.c 0)] (by kernel_rfl)

theorem argJ_208 (val : Nat → Int) (h : Holds val [.le (.a 6) (-1), tI 5 5, tN 5 0, .le (.a 4) 15, .ge (.a 4) 0, tI 3 5, tN 3 8, tN 3 0, tI 9 32, tN 9 16, tN 9 8, tN 9 4, tN 9 2, tN 9 1, tN 9 0, .le (.a 8) 2147483647, .ge (.a 8) (-2147483648), tI 0 2, tN 0 1]) : ArgJ val := lf h [(.c 0), (.c 0), (.c 0), (.c 0), (.c 0), (.c 0), (.c 0), (.c 0), (.c 0), (.c 0), (.c 0), (.c 2), (.c 0)] (by kernel_rfl)

theorem argJ_209 (val : Nat → Int) (h : Holds val [tN 5 5, tN 5 0, .le (.a 4) 15, .ge (.a 4) 0, tI 3 5, tN 3 8, tN 3 0, tI 9 32, tN 9 16, tN 9 8, tN 9 4, tN 9 2, tN 9 1, tN 9 0, .le (.a 8) 2147483647, .ge (.a 8) (-2147483648), tI 0 2, tN 0 1]) : ArgJ val := lf h [(.c 0), (.c 0), (.c 0), (.c 0), (.c 0), (.c 0), (.c 0), (.c 0), (.c 0), (.c 0), (.c 0), (.c 2), (.c 0)] (by kernel_rfl)

theorem argJ_210 (val : Nat → Int) (h : Holds val [.ge (.a 4) 16, .ge (.a 4) 0, tI 3 5, tN 3 8, tN 3 0, tI 9 32, tN 9 16, tN 9 8, tN 9 4, tN 9 2, tN 9 1, tN 9 0, .le (.a 8) 2147483647, .ge (.a 8) (-2147483648), tI 0 2, tN 0 1]) : ArgJ val := lf h [(.c 0), (.c 0), (.c 0), (.c 0), (.c 0), (.c 0), (.c 0), (.c 0), (.c 0), (.c 0), (.c 0), (.c 2), (.c 0)] (by kernel_rfl)

theorem argJ_211 (val : Nat → Int) (h : Holds val [.le (.a 4) (-1), tI 3 5, tN 3 8, tN 3 0, tI 9 32, tN 9 16, tN 9 8, tN 9 4, tN 9 2, tN 9 1, tN 9 0, .le (.a 8) 2147483647, .ge (.a 8) (-2147483648), tI 0 2, tN 0 1]) : ArgJ val := lf h [(.c 0), (.c 0), (.c 0), (.c 0), (.c 0), (.c 0), (.c 0), (.c 0), (.c 0), (.c 0), (.c 0), (.c 2), (.c 0)] (by kernel_rfl)

theorem argJ_212 (val : Nat → Int) (h : Holds val [tN 3 5, tN 3 8, tN 3 0, tI 9 32, tN 9 16, tN 9 8, tN 9 4, tN 9 2, tN 9 1, tN 9 0, .le (.a 8) 2147483647, .ge (.a 8) (-2147483648), tI 0 2, tN 0 1]) : ArgJ val := lf h [(.c 0), (.c 0), (.c 0), (.c 0), (.c 0), (.c 0), (.c 0), (.c 0), (.c 0), (.c 0), (.c 0), (.c 2), (.c 0)] (by kernel_rfl)

theorem argJ_213 (val : Nat → Int) (h : Holds val [tN 9 32, tN 9 16, tN 9 8, tN 9 4, tN 9 2, tN 9 1, tN 9 0, .le (.a 8) 2147483647, .ge (.a 8) (-2147483648), tI 0 2, tN 0 1]) : ArgJ val := lf h [(.c 0), (.c 0), (.c 0), (.c 0), (.c 0), (.c 0), (.c 0), (.c 0), (.c 0), (.c 0), (.c 0), (.c 2), (.c 0)] (by kernel_rfl)

theorem argJ_214 (val : Nat → Int) (h : Holds val [tN 0 2, tN 0 1]) : ArgJ val := by_eq 0 3 h (fun h => lf h [(.a 0), (.c 0), (.c 0), (.c 0), (.c 0), (.c 0), (.c 0), (.c 0), (.c 0), (.c 0), (.a 10), (.c 0), (.c 0)] (by kernel_rfl))
 (fun h => by_eq 0 4 h (fun h => by_way (.lt (.a 10) (.c (-2147483648))) (.le (.a 10) (-2147483649)) (.ge (.a 10) (-2147483648)) rfl rfl h (fun h => lf h [(.c 0), (.c 0), (.c 0), (.c 0), (.c 0), (.c 0), (.c 0), (.c 0), (.c 0), (.c 0), (.c 0), (.c 5), (.c 0)] (by kernel_rfl))
 (fun h => by_way (.lt (.c 2147483647) (.a 10)) (.ge (.a 10) 2147483648) (.le (.a 10) 2147483647) rfl rfl h (fun h => lf h [(.c 0), (.c 0), (.c 0), (.c 0), (.c 0), (.c 0), (.c 0), (.c 0), (.c 0), (.c 0), (.c 0), (.c 5), (.c 0)] (by kernel_rfl))
 (fun h => lf h [(.a 0), (.c 0), (.c 0), (.c 0), (.c 0), (.c 0), (.c 0), (.c 0), (.c 0), (.c 0), (.a 10), (.c 0), (.c 0)] (by kernel_rfl))))
 (fun h => lf h [(.c 0), (.c 0), (.c 0), (.c 0), (.c 0), (.c 0), (.c 0), (.c 0), (.c 0), (.c 0), (.c 0), (.c 2), (.c 0)] (by kernel_rfl)))

end Go.Proofs.Ytndiilfjeconbaa.Tab
