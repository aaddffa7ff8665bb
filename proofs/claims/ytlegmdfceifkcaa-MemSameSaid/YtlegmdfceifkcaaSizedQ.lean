/-
  All ways together.
-/
import Derived.Test.YtlegmdfceifkcaaSizedQ0
namespace Go.Proofs.Ytlegmdfceifkcaa.Tab
open Go.Sim
set_option maxRecDepth 100000


theorem sizedQ (val : Nat → Int) : Ret Try.prog 23 [.int .i64 (val 0)] (.bool (sizes.any fun m => val 0 == m)) :=
  have h : Holds val [] := holds_nil
  by_way (.eq (.a 0) (.c 0)) (.is (.a 0) 0) (.ne (.a 0) 0) (by kernel_rfl) (by kernel_rfl) h
  (fun h => sizedQ0 val h)
  (fun h => by_way (.eq (.a 0) (.c 1)) (.is (.a 0) 1) (.ne (.a 0) 1) (by kernel_rfl) (by kernel_rfl) h
  (fun h => sizedQ1 val h)
  (fun h => by_way (.eq (.a 0) (.c 2)) (.is (.a 0) 2) (.ne (.a 0) 2) (by kernel_rfl) (by kernel_rfl) h
  (fun h => sizedQ2 val h)
  (fun h => by_way (.eq (.a 0) (.c 4)) (.is (.a 0) 4) (.ne (.a 0) 4) (by kernel_rfl) (by kernel_rfl) h
  (fun h => sizedQ3 val h)
  (fun h => by_way (.eq (.a 0) (.c 8)) (.is (.a 0) 8) (.ne (.a 0) 8) (by kernel_rfl) (by kernel_rfl) h
  (fun h => sizedQ4 val h)
  (fun h => by_way (.eq (.a 0) (.c 16)) (.is (.a 0) 16) (.ne (.a 0) 16) (by kernel_rfl) (by kernel_rfl) h
  (fun h => sizedQ5 val h)
  (fun h => by_way (.eq (.a 0) (.c 32)) (.is (.a 0) 32) (.ne (.a 0) 32) (by kernel_rfl) (by kernel_rfl) h
  (fun h => sizedQ6 val h)
  (fun h => sizedQ7 val h)))))))

end Go.Proofs.Ytlegmdfceifkcaa.Tab
