/-
  'OperandLike' says true of any number, any width.
-/
import Derived.Test.YtclhjdddakmafaaLikeQ
namespace Go.Proofs.Ytclhjdddakmafaa.operandLike
open Go.Sim Go.Proofs.Ytclhjdddakmafaa.Tab

theorem outNil {I : Syms} (E : Env) (w : World) : @OutOK I E w [] := fun k o hk => by simp at hk

theorem range {n : Int} (h : (Lit.int .i64 n).wf = true) : -9223372036854775808 ≤ n ∧ n ≤ 9223372036854775807 := by
  have h' : (decide (IntKind.i64.min ≤ n) && decide (n ≤ IntKind.i64.max)) = true := h
  simp only [Bool.and_eq_true, decide_eq_true_eq] at h'
  exact h'

theorem walk (a : Int) (ha : (Lit.int .i64 a).wf = true) (b : Int) (_ : (Lit.int .i64 b).wf = true) (w : World) :
    Calls Try.prog 4 #[.int .i64 a, .int .i64 b] w fun e w' => e = .returned (.bool true) ∧ RowKit.Below w.heap.size w w' := by
  have r := range ha
  have hh : ∀ i : Int, (SX.rem (.wrap .i64 (.add (.rem (.a 1) 4) (.c 4))) 4).eval (fun k => [a, b].getD k 0) = i → Holds (fun k => [a, b].getD k 0) [.is (.rem (.wrap .i64 (.add (.rem (.a 1) 4) (.c 4))) 4) i, .ge (.a 0) (-9223372036854775808), .le (.a 0) 9223372036854775807] := by
    intro i hi f hf
    simp only [List.mem_cons, List.not_mem_nil, or_false] at hf
    rcases hf with rfl | rfl | rfl
    · exact hi
    · exact r.1
    · exact r.2
  have he : (SX.rem (.wrap .i64 (.add (.rem (.a 1) 4) (.c 4))) 4).eval (fun k => [a, b].getD k 0) = (((b.tmod 4 + 4) + 9223372036854775808) % 18446744073709551616 - 9223372036854775808).tmod 4 := by
    simp only [SX.eval, wrapI]; rfl
  have h4 : (((b.tmod 4 + 4) + 9223372036854775808) % 18446744073709551616 - 9223372036854775808).tmod 4 = 0 ∨ (((b.tmod 4 + 4) + 9223372036854775808) % 18446744073709551616 - 9223372036854775808).tmod 4 = 1 ∨ (((b.tmod 4 + 4) + 9223372036854775808) % 18446744073709551616 - 9223372036854775808).tmod 4 = 2 ∨ (((b.tmod 4 + 4) + 9223372036854775808) % 18446744073709551616 - 9223372036854775808).tmod 4 = 3 := by
    simp only [tmodP]
    omega
  rcases h4 with h | h | h | h
  · exact like0 _ (hh 0 (he.trans h)) E0 w (outNil _ _)
  · exact like1 _ (hh 1 (he.trans h)) E0 w (outNil _ _)
  · exact like2 _ (hh 2 (he.trans h)) E0 w (outNil _ _)
  · exact like3 _ (hh 3 (he.trans h)) E0 w (outNil _ _)

end Go.Proofs.Ytclhjdddakmafaa.operandLike
