/-
  'OperandCanon' says true of any two operands.
-/
import Derived.Test.YtclhjdddakmafaaCanonQ
namespace Go.Proofs.Ytclhjdddakmafaa.operandCanon
open Go.Sim Go.Proofs.Ytclhjdddakmafaa.Tab

theorem row11 {Y : List Int} (h : Y.length = 11) : ∃ y0 y1 y2 y3 y4 y5 y6 y7 y8 y9 y10, Y = [y0, y1, y2, y3, y4, y5, y6, y7, y8, y9, y10] := by
  match Y, h with
  | [y0, y1, y2, y3, y4, y5, y6, y7, y8, y9, y10], _ => exact ⟨_, _, _, _, _, _, _, _, _, _, _, rfl⟩

theorem walk (la : List Int) (ha : la.length = 11) (_ : ∀ n ∈ la, (Lit.int .i64 n).wf = true) (lb : List Int) (hb : lb.length = 11) (_ : ∀ n ∈ lb, (Lit.int .i64 n).wf = true) (w : World) :
    Calls Try.prog 7 #[.agg (la.map fun n => Value.int .i64 n).toArray, .agg (lb.map fun n => Value.int .i64 n).toArray] w fun e w' => e = .returned (.bool true) ∧ RowKit.Below w.heap.size w w' := by
  obtain ⟨a0, a1, a2, a3, a4, a5, a6, a7, a8, a9, a10, rfl⟩ := row11 ha
  obtain ⟨b0, b1, b2, b3, b4, b5, b6, b7, b8, b9, b10, rfl⟩ := row11 hb
  exact canonQ (fun k => [a0, a1, a2, a3, a4, a5, a6, a7, a8, a9, a10, b0, b1, b2, b3, b4, b5, b6, b7, b8, b9, b10].getD k 0) w

end Go.Proofs.Ytclhjdddakmafaa.operandCanon
