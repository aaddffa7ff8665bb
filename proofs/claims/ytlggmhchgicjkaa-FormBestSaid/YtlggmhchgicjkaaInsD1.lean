/-
  Ways through the code, part 1.
-/
import Derived.Test.YtlggmhchgicjkaaInsH
namespace Go.Proofs.Ytlggmhchgicjkaa.Tab
open Go.Sim
set_option maxRecDepth 100000
set_option linter.unusedSimpArgs false
set_option maxHeartbeats 4000000

theorem chk3_0 (val : Nat → Int) (h : Holds val [tI 80 2, tI 40 2, tI 131 0, tI 91 0, tI 51 0, tI 2 1]) : Chk3 val := by_eq 120 2 h (fun h => lcG s_chk3 h [(.c 2)] (by kernel_rfl) (fun _ _ _ => by kernel_rfl))
 (fun h => by_eq 120 4 h (fun h => lcG s_chk3 h [(.c 2)] (by kernel_rfl) (fun _ _ _ => by kernel_rfl))
 (fun h => by_eq 120 3 h (fun h => lcG s_chk3 h [(.c 2)] (by kernel_rfl) (fun _ _ _ => by kernel_rfl))
 (fun h => lcG s_chk3 h [(.c 2)] (by kernel_rfl) (fun _ _ _ => by kernel_rfl))))

theorem chk3_1 (val : Nat → Int) (h : Holds val [tI 80 4, tN 80 2, tI 40 2, tI 131 0, tI 91 0, tI 51 0, tI 2 1]) : Chk3 val := by_eq 120 2 h (fun h => lcG s_chk3 h [(.c 2)] (by kernel_rfl) (fun _ _ _ => by kernel_rfl))
 (fun h => by_eq 120 4 h (fun h => lcG s_chk3 h [(.c 2)] (by kernel_rfl) (fun _ _ _ => by kernel_rfl))
 (fun h => by_eq 120 3 h (fun h => by_eq 5 0 h (fun h => lcG s_chk3 h [(.c 2)] (by kernel_rfl) (fun _ _ _ => by kernel_rfl))
 (fun h => by_eq 151 0 h (fun h => lcG s_chk3 h [(.a 151)] (by kernel_rfl) (fun _ _ _ => by kernel_rfl))
 (fun h => lcG s_chk3 h [(.a 151)] (by kernel_rfl) (fun _ _ _ => by kernel_rfl))))
 (fun h => lcG s_chk3 h [(.c 0)] (by kernel_rfl) (fun _ _ _ => by kernel_rfl))))

theorem chk3_2 (val : Nat → Int) (h : Holds val [tI 80 3, tN 80 4, tN 80 2, tI 40 2, tI 131 0, tI 91 0, tI 51 0, tI 2 1]) : Chk3 val := by_eq 120 2 h (fun h => lcG s_chk3 h [(.c 2)] (by kernel_rfl) (fun _ _ _ => by kernel_rfl))
 (fun h => by_eq 120 4 h (fun h => by_eq 5 0 h (fun h => lcG s_chk3 h [(.c 2)] (by kernel_rfl) (fun _ _ _ => by kernel_rfl))
 (fun h => by_eq 111 0 h (fun h => lcG s_chk3 h [(.a 111)] (by kernel_rfl) (fun _ _ _ => by kernel_rfl))
 (fun h => lcG s_chk3 h [(.a 111)] (by kernel_rfl) (fun _ _ _ => by kernel_rfl))))
 (fun h => by_eq 120 3 h (fun h => lcG s_chk3 h [(.c 2)] (by kernel_rfl) (fun _ _ _ => by kernel_rfl))
 (fun h => by_eq 5 0 h (fun h => lcG s_chk3 h [(.c 2)] (by kernel_rfl) (fun _ _ _ => by kernel_rfl))
 (fun h => by_eq 111 0 h (fun h => lcG s_chk3 h [(.a 111)] (by kernel_rfl) (fun _ _ _ => by kernel_rfl))
 (fun h => lcG s_chk3 h [(.a 111)] (by kernel_rfl) (fun _ _ _ => by kernel_rfl))))))

theorem chk3_3 (val : Nat → Int) (h : Holds val [tN 80 3, tN 80 4, tN 80 2, tI 40 2, tI 131 0, tI 91 0, tI 51 0, tI 2 1]) : Chk3 val := by_eq 120 2 h (fun h => lcG s_chk3 h [(.c 2)] (by kernel_rfl) (fun _ _ _ => by kernel_rfl))
 (fun h => by_eq 120 4 h (fun h => lcG s_chk3 h [(.c 0)] (by kernel_rfl) (fun _ _ _ => by kernel_rfl))
 (fun h => by_eq 120 3 h (fun h => by_eq 5 0 h (fun h => lcG s_chk3 h [(.c 2)] (by kernel_rfl) (fun _ _ _ => by kernel_rfl))
 (fun h => by_eq 151 0 h (fun h => lcG s_chk3 h [(.a 151)] (by kernel_rfl) (fun _ _ _ => by kernel_rfl))
 (fun h => lcG s_chk3 h [(.a 151)] (by kernel_rfl) (fun _ _ _ => by kernel_rfl))))
 (fun h => lcG s_chk3 h [(.c 0)] (by kernel_rfl) (fun _ _ _ => by kernel_rfl))))

theorem chk3_4 (val : Nat → Int) (h : Holds val [tI 80 2, tI 40 4, tN 40 2, tI 131 0, tI 91 0, tI 51 0, tI 2 1]) : Chk3 val := by_eq 120 2 h (fun h => lcG s_chk3 h [(.c 2)] (by kernel_rfl) (fun _ _ _ => by kernel_rfl))
 (fun h => by_eq 120 4 h (fun h => lcG s_chk3 h [(.c 2)] (by kernel_rfl) (fun _ _ _ => by kernel_rfl))
 (fun h => by_eq 120 3 h (fun h => by_eq 5 0 h (fun h => lcG s_chk3 h [(.c 2)] (by kernel_rfl) (fun _ _ _ => by kernel_rfl))
 (fun h => by_eq 151 0 h (fun h => lcG s_chk3 h [(.a 151)] (by kernel_rfl) (fun _ _ _ => by kernel_rfl))
 (fun h => lcG s_chk3 h [(.a 151)] (by kernel_rfl) (fun _ _ _ => by kernel_rfl))))
 (fun h => lcG s_chk3 h [(.c 0)] (by kernel_rfl) (fun _ _ _ => by kernel_rfl))))

theorem chk3_5 (val : Nat → Int) (h : Holds val [tI 80 4, tN 80 2, tI 40 4, tN 40 2, tI 131 0, tI 91 0, tI 51 0, tI 2 1]) : Chk3 val := by_eq 120 2 h (fun h => lcG s_chk3 h [(.c 2)] (by kernel_rfl) (fun _ _ _ => by kernel_rfl))
 (fun h => by_eq 120 4 h (fun h => lcG s_chk3 h [(.c 2)] (by kernel_rfl) (fun _ _ _ => by kernel_rfl))
 (fun h => by_eq 120 3 h (fun h => lcG s_chk3 h [(.c 2)] (by kernel_rfl) (fun _ _ _ => by kernel_rfl))
 (fun h => lcG s_chk3 h [(.c 2)] (by kernel_rfl) (fun _ _ _ => by kernel_rfl))))

theorem chk3_6 (val : Nat → Int) (h : Holds val [tI 80 3, tN 80 4, tN 80 2, tI 40 4, tN 40 2, tI 131 0, tI 91 0, tI 51 0, tI 2 1]) : Chk3 val := by_eq 120 2 h (fun h => by_eq 5 0 h (fun h => lcG s_chk3 h [(.c 2)] (by kernel_rfl) (fun _ _ _ => by kernel_rfl))
 (fun h => by_eq 111 0 h (fun h => lcG s_chk3 h [(.a 111)] (by kernel_rfl) (fun _ _ _ => by kernel_rfl))
 (fun h => lcG s_chk3 h [(.a 111)] (by kernel_rfl) (fun _ _ _ => by kernel_rfl))))
 (fun h => by_eq 120 4 h (fun h => lcG s_chk3 h [(.c 2)] (by kernel_rfl) (fun _ _ _ => by kernel_rfl))
 (fun h => by_eq 120 3 h (fun h => lcG s_chk3 h [(.c 2)] (by kernel_rfl) (fun _ _ _ => by kernel_rfl))
 (fun h => by_eq 5 0 h (fun h => lcG s_chk3 h [(.c 2)] (by kernel_rfl) (fun _ _ _ => by kernel_rfl))
 (fun h => by_eq 111 0 h (fun h => lcG s_chk3 h [(.a 111)] (by kernel_rfl) (fun _ _ _ => by kernel_rfl))
 (fun h => lcG s_chk3 h [(.a 111)] (by kernel_rfl) (fun _ _ _ => by kernel_rfl))))))

theorem chk3_7 (val : Nat → Int) (h : Holds val [tN 80 3, tN 80 4, tN 80 2, tI 40 4, tN 40 2, tI 131 0, tI 91 0, tI 51 0, tI 2 1]) : Chk3 val := by_eq 120 2 h (fun h => lcG s_chk3 h [(.c 0)] (by kernel_rfl) (fun _ _ _ => by kernel_rfl))
 (fun h => by_eq 120 4 h (fun h => lcG s_chk3 h [(.c 2)] (by kernel_rfl) (fun _ _ _ => by kernel_rfl))
 (fun h => by_eq 120 3 h (fun h => by_eq 5 0 h (fun h => lcG s_chk3 h [(.c 2)] (by kernel_rfl) (fun _ _ _ => by kernel_rfl))
 (fun h => by_eq 151 0 h (fun h => lcG s_chk3 h [(.a 151)] (by kernel_rfl) (fun _ _ _ => by kernel_rfl))
 (fun h => lcG s_chk3 h [(.a 151)] (by kernel_rfl) (fun _ _ _ => by kernel_rfl))))
 (fun h => lcG s_chk3 h [(.c 0)] (by kernel_rfl) (fun _ _ _ => by kernel_rfl))))

theorem chk3_8 (val : Nat → Int) (h : Holds val [tI 80 2, tI 40 3, tN 40 4, tN 40 2, tI 131 0, tI 91 0, tI 51 0, tI 2 1]) : Chk3 val := by_eq 120 2 h (fun h => lcG s_chk3 h [(.c 2)] (by kernel_rfl) (fun _ _ _ => by kernel_rfl))
 (fun h => by_eq 120 4 h (fun h => by_eq 5 0 h (fun h => lcG s_chk3 h [(.c 2)] (by kernel_rfl) (fun _ _ _ => by kernel_rfl))
 (fun h => by_eq 71 0 h (fun h => lcG s_chk3 h [(.a 71)] (by kernel_rfl) (fun _ _ _ => by kernel_rfl))
 (fun h => lcG s_chk3 h [(.a 71)] (by kernel_rfl) (fun _ _ _ => by kernel_rfl))))
 (fun h => by_eq 120 3 h (fun h => lcG s_chk3 h [(.c 2)] (by kernel_rfl) (fun _ _ _ => by kernel_rfl))
 (fun h => by_eq 5 0 h (fun h => lcG s_chk3 h [(.c 2)] (by kernel_rfl) (fun _ _ _ => by kernel_rfl))
 (fun h => by_eq 71 0 h (fun h => lcG s_chk3 h [(.a 71)] (by kernel_rfl) (fun _ _ _ => by kernel_rfl))
 (fun h => lcG s_chk3 h [(.a 71)] (by kernel_rfl) (fun _ _ _ => by kernel_rfl))))))

theorem chk3_9 (val : Nat → Int) (h : Holds val [tI 80 4, tN 80 2, tI 40 3, tN 40 4, tN 40 2, tI 131 0, tI 91 0, tI 51 0, tI 2 1]) : Chk3 val := by_eq 120 2 h (fun h => by_eq 5 0 h (fun h => lcG s_chk3 h [(.c 2)] (by kernel_rfl) (fun _ _ _ => by kernel_rfl))
 (fun h => by_eq 71 0 h (fun h => lcG s_chk3 h [(.a 71)] (by kernel_rfl) (fun _ _ _ => by kernel_rfl))
 (fun h => lcG s_chk3 h [(.a 71)] (by kernel_rfl) (fun _ _ _ => by kernel_rfl))))
 (fun h => by_eq 120 4 h (fun h => lcG s_chk3 h [(.c 2)] (by kernel_rfl) (fun _ _ _ => by kernel_rfl))
 (fun h => by_eq 120 3 h (fun h => lcG s_chk3 h [(.c 2)] (by kernel_rfl) (fun _ _ _ => by kernel_rfl))
 (fun h => by_eq 5 0 h (fun h => lcG s_chk3 h [(.c 2)] (by kernel_rfl) (fun _ _ _ => by kernel_rfl))
 (fun h => by_eq 71 0 h (fun h => lcG s_chk3 h [(.a 71)] (by kernel_rfl) (fun _ _ _ => by kernel_rfl))
 (fun h => lcG s_chk3 h [(.a 71)] (by kernel_rfl) (fun _ _ _ => by kernel_rfl))))))

theorem chk3_10 (val : Nat → Int) (h : Holds val [tI 80 3, tN 80 4, tN 80 2, tI 40 3, tN 40 4, tN 40 2, tI 131 0, tI 91 0, tI 51 0, tI 2 1]) : Chk3 val := by_eq 120 2 h (fun h => lcG s_chk3 h [(.c 2)] (by kernel_rfl) (fun _ _ _ => by kernel_rfl))
 (fun h => by_eq 120 4 h (fun h => lcG s_chk3 h [(.c 2)] (by kernel_rfl) (fun _ _ _ => by kernel_rfl))
 (fun h => by_eq 120 3 h (fun h => lcG s_chk3 h [(.c 2)] (by kernel_rfl) (fun _ _ _ => by kernel_rfl))
 (fun h => lcG s_chk3 h [(.c 2)] (by kernel_rfl) (fun _ _ _ => by kernel_rfl))))

theorem chk3_11 (val : Nat → Int) (h : Holds val [tI 120 2, tN 80 3, tN 80 4, tN 80 2, tI 40 3, tN 40 4, tN 40 2, tI 131 0, tI 91 0, tI 51 0, tI 2 1]) : Chk3 val := by_eq 5 0 h (fun h => lcG s_chk3 h [(.c 2)] (by kernel_rfl) (fun _ _ _ => by kernel_rfl))
 (fun h => by_eq 71 0 h (fun h => lcG s_chk3 h [(.a 71)] (by kernel_rfl) (fun _ _ _ => by kernel_rfl))
 (fun h => lcG s_chk3 h [(.a 71)] (by kernel_rfl) (fun _ _ _ => by kernel_rfl)))

theorem chk3_12 (val : Nat → Int) (h : Holds val [tN 120 2, tN 80 3, tN 80 4, tN 80 2, tI 40 3, tN 40 4, tN 40 2, tI 131 0, tI 91 0, tI 51 0, tI 2 1]) : Chk3 val := by_eq 120 4 h (fun h => by_eq 5 0 h (fun h => lcG s_chk3 h [(.c 2)] (by kernel_rfl) (fun _ _ _ => by kernel_rfl))
 (fun h => by_eq 71 0 h (fun h => lcG s_chk3 h [(.a 71)] (by kernel_rfl) (fun _ _ _ => by kernel_rfl))
 (fun h => lcG s_chk3 h [(.a 71)] (by kernel_rfl) (fun _ _ _ => by kernel_rfl))))
 (fun h => by_eq 120 3 h (fun h => lcG s_chk3 h [(.c 2)] (by kernel_rfl) (fun _ _ _ => by kernel_rfl))
 (fun h => by_eq 5 0 h (fun h => lcG s_chk3 h [(.c 2)] (by kernel_rfl) (fun _ _ _ => by kernel_rfl))
 (fun h => by_eq 71 0 h (fun h => lcG s_chk3 h [(.a 71)] (by kernel_rfl) (fun _ _ _ => by kernel_rfl))
 (fun h => lcG s_chk3 h [(.a 71)] (by kernel_rfl) (fun _ _ _ => by kernel_rfl)))))

theorem chk3_13 (val : Nat → Int) (h : Holds val [tI 80 2, tN 40 3, tN 40 4, tN 40 2, tI 131 0, tI 91 0, tI 51 0, tI 2 1]) : Chk3 val := by_eq 120 2 h (fun h => lcG s_chk3 h [(.c 2)] (by kernel_rfl) (fun _ _ _ => by kernel_rfl))
 (fun h => by_eq 120 4 h (fun h => lcG s_chk3 h [(.c 0)] (by kernel_rfl) (fun _ _ _ => by kernel_rfl))
 (fun h => by_eq 120 3 h (fun h => by_eq 5 0 h (fun h => lcG s_chk3 h [(.c 2)] (by kernel_rfl) (fun _ _ _ => by kernel_rfl))
 (fun h => by_eq 151 0 h (fun h => lcG s_chk3 h [(.a 151)] (by kernel_rfl) (fun _ _ _ => by kernel_rfl))
 (fun h => lcG s_chk3 h [(.a 151)] (by kernel_rfl) (fun _ _ _ => by kernel_rfl))))
 (fun h => lcG s_chk3 h [(.c 0)] (by kernel_rfl) (fun _ _ _ => by kernel_rfl))))

theorem chk3_14 (val : Nat → Int) (h : Holds val [tI 80 4, tN 80 2, tN 40 3, tN 40 4, tN 40 2, tI 131 0, tI 91 0, tI 51 0, tI 2 1]) : Chk3 val := by_eq 120 2 h (fun h => lcG s_chk3 h [(.c 0)] (by kernel_rfl) (fun _ _ _ => by kernel_rfl))
 (fun h => by_eq 120 4 h (fun h => lcG s_chk3 h [(.c 2)] (by kernel_rfl) (fun _ _ _ => by kernel_rfl))
 (fun h => by_eq 120 3 h (fun h => by_eq 5 0 h (fun h => lcG s_chk3 h [(.c 2)] (by kernel_rfl) (fun _ _ _ => by kernel_rfl))
 (fun h => by_eq 151 0 h (fun h => lcG s_chk3 h [(.a 151)] (by kernel_rfl) (fun _ _ _ => by kernel_rfl))
 (fun h => lcG s_chk3 h [(.a 151)] (by kernel_rfl) (fun _ _ _ => by kernel_rfl))))
 (fun h => lcG s_chk3 h [(.c 0)] (by kernel_rfl) (fun _ _ _ => by kernel_rfl))))

theorem chk3_15 (val : Nat → Int) (h : Holds val [tI 120 2, tI 80 3, tN 80 4, tN 80 2, tN 40 3, tN 40 4, tN 40 2, tI 131 0, tI 91 0, tI 51 0, tI 2 1]) : Chk3 val := by_eq 5 0 h (fun h => lcG s_chk3 h [(.c 2)] (by kernel_rfl) (fun _ _ _ => by kernel_rfl))
 (fun h => by_eq 111 0 h (fun h => lcG s_chk3 h [(.a 111)] (by kernel_rfl) (fun _ _ _ => by kernel_rfl))
 (fun h => lcG s_chk3 h [(.a 111)] (by kernel_rfl) (fun _ _ _ => by kernel_rfl)))

theorem chk3_16 (val : Nat → Int) (h : Holds val [tN 120 2, tI 80 3, tN 80 4, tN 80 2, tN 40 3, tN 40 4, tN 40 2, tI 131 0, tI 91 0, tI 51 0, tI 2 1]) : Chk3 val := by_eq 120 4 h (fun h => by_eq 5 0 h (fun h => lcG s_chk3 h [(.c 2)] (by kernel_rfl) (fun _ _ _ => by kernel_rfl))
 (fun h => by_eq 111 0 h (fun h => lcG s_chk3 h [(.a 111)] (by kernel_rfl) (fun _ _ _ => by kernel_rfl))
 (fun h => lcG s_chk3 h [(.a 111)] (by kernel_rfl) (fun _ _ _ => by kernel_rfl))))
 (fun h => by_eq 120 3 h (fun h => lcG s_chk3 h [(.c 2)] (by kernel_rfl) (fun _ _ _ => by kernel_rfl))
 (fun h => by_eq 5 0 h (fun h => lcG s_chk3 h [(.c 2)] (by kernel_rfl) (fun _ _ _ => by kernel_rfl))
 (fun h => by_eq 111 0 h (fun h => lcG s_chk3 h [(.a 111)] (by kernel_rfl) (fun _ _ _ => by kernel_rfl))
 (fun h => lcG s_chk3 h [(.a 111)] (by kernel_rfl) (fun _ _ _ => by kernel_rfl)))))

theorem chk3_17 (val : Nat → Int) (h : Holds val [tN 80 3, tN 80 4, tN 80 2, tN 40 3, tN 40 4, tN 40 2, tI 131 0, tI 91 0, tI 51 0, tI 2 1]) : Chk3 val := by_eq 120 2 h (fun h => lcG s_chk3 h [(.c 0)] (by kernel_rfl) (fun _ _ _ => by kernel_rfl))
 (fun h => by_eq 120 4 h (fun h => lcG s_chk3 h [(.c 0)] (by kernel_rfl) (fun _ _ _ => by kernel_rfl))
 (fun h => by_eq 120 3 h (fun h => by_eq 5 0 h (fun h => lcG s_chk3 h [(.c 2)] (by kernel_rfl) (fun _ _ _ => by kernel_rfl))
 (fun h => by_eq 151 0 h (fun h => lcG s_chk3 h [(.a 151)] (by kernel_rfl) (fun _ _ _ => by kernel_rfl))
 (fun h => lcG s_chk3 h [(.a 151)] (by kernel_rfl) (fun _ _ _ => by kernel_rfl))))
 (fun h => lcG s_chk3 h [(.c 0)] (by kernel_rfl) (fun _ _ _ => by kernel_rfl))))

theorem chk3_18 (val : Nat → Int) (h : Holds val [tN 131 0, tI 91 0, tI 51 0, tI 2 1]) : Chk3 val := lcG s_chk3 h [(.a 131)] (by kernel_rfl) (fun _ _ _ => by kernel_rfl)

theorem chk3_19 (val : Nat → Int) (h : Holds val [tN 91 0, tI 51 0, tI 2 1]) : Chk3 val := lcG s_chk3 h [(.a 91)] (by kernel_rfl) (fun _ _ _ => by kernel_rfl)

theorem chk3_20 (val : Nat → Int) (h : Holds val [tN 51 0, tI 2 1]) : Chk3 val := lcG s_chk3 h [(.a 51)] (by kernel_rfl) (fun _ _ _ => by kernel_rfl)

theorem chk3_21 (val : Nat → Int) (h : Holds val [tN 2 1]) : Chk3 val := lcG s_chk3 h [(.c 6)] (by kernel_rfl) (fun _ _ _ => by kernel_rfl)

theorem chk3 (val : Nat → Int) : Chk3 val :=
  have h : Holds val [] := holds_nil
  by_eq 2 1 h (fun h => by_eq 51 0 h (fun h => by_eq 91 0 h (fun h => by_eq 131 0 h (fun h => by_eq 40 2 h (fun h => by_eq 80 2 h (fun h => chk3_0 val h)
 (fun h => by_eq 80 4 h (fun h => chk3_1 val h)
 (fun h => by_eq 80 3 h (fun h => chk3_2 val h)
 (fun h => chk3_3 val h))))
 (fun h => by_eq 40 4 h (fun h => by_eq 80 2 h (fun h => chk3_4 val h)
 (fun h => by_eq 80 4 h (fun h => chk3_5 val h)
 (fun h => by_eq 80 3 h (fun h => chk3_6 val h)
 (fun h => chk3_7 val h))))
 (fun h => by_eq 40 3 h (fun h => by_eq 80 2 h (fun h => chk3_8 val h)
 (fun h => by_eq 80 4 h (fun h => chk3_9 val h)
 (fun h => by_eq 80 3 h (fun h => chk3_10 val h)
 (fun h => by_eq 120 2 h (fun h => chk3_11 val h)
 (fun h => chk3_12 val h)))))
 (fun h => by_eq 80 2 h (fun h => chk3_13 val h)
 (fun h => by_eq 80 4 h (fun h => chk3_14 val h)
 (fun h => by_eq 80 3 h (fun h => by_eq 120 2 h (fun h => chk3_15 val h)
 (fun h => chk3_16 val h))
 (fun h => chk3_17 val h)))))))
 (fun h => chk3_18 val h))
 (fun h => chk3_19 val h))
 (fun h => chk3_20 val h))
 (fun h => chk3_21 val h)

end Go.Proofs.Ytlggmhchgicjkaa.Tab
