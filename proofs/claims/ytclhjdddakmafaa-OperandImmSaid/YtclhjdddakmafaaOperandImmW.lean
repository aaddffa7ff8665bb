/-
  'OperandImm' says true of any number, any width.
-/
import Derived.Test.YtclhjdddakmafaaImmQ
namespace Go.Proofs.Ytclhjdddakmafaa.operandImm
open Go.Sim Go.Proofs.Ytclhjdddakmafaa.Tab

theorem outNil {I : Syms} (E : Env) (w : World) : @OutOK I E w [] := fun k o hk => by simp at hk

theorem range {n : Int} (h : (Lit.int .i64 n).wf = true) : -9223372036854775808 ≤ n ∧ n ≤ 9223372036854775807 := by
  have h' : (decide (IntKind.i64.min ≤ n) && decide (n ≤ IntKind.i64.max)) = true := h
  simp only [Bool.and_eq_true, decide_eq_true_eq] at h'
  exact h'

theorem walk (a : Int) (ha : (Lit.int .i64 a).wf = true) (b : Int) (_ : (Lit.int .i64 b).wf = true) (s : Bool) (w : World) :
    Calls Try.prog 3 #[.int .i64 a, .int .i64 b, .bool s] w fun e w' => e = .returned (.bool true) ∧ RowKit.Below w.heap.size w w' := by
  have r := range ha
  have hh : Holds (fun k => [a, b].getD k 0) [.ge (.a 0) (-9223372036854775808), .le (.a 0) 9223372036854775807] := by
    intro f hf
    simp only [List.mem_cons, List.not_mem_nil, or_false] at hf
    rcases hf with rfl | rfl
    · exact r.1
    · exact r.2
  cases s with
  | true => exact immTrue _ hh E0 w (outNil _ _)
  | false => exact immFalse _ hh E0 w (outNil _ _)

end Go.Proofs.Ytclhjdddakmafaa.operandImm
