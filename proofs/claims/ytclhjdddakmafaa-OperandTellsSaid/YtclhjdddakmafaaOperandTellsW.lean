/-
  'OperandTells' says true of any two operands.
-/
import Derived.Test.YtclhjdddakmafaaTellsQ
namespace Go.Proofs.Ytclhjdddakmafaa.operandTells
open Go.Sim Go.Proofs.Ytclhjdddakmafaa.Tab

theorem row13 {Y : List Int} (h : Y.length = 13) : ∃ y0 y1 y2 y3 y4 y5 y6 y7 y8 y9 y10 y11 y12, Y = [y0, y1, y2, y3, y4, y5, y6, y7, y8, y9, y10, y11, y12] := by
  match Y, h with
  | [y0, y1, y2, y3, y4, y5, y6, y7, y8, y9, y10, y11, y12], _ => exact ⟨_, _, _, _, _, _, _, _, _, _, _, _, _, rfl⟩

theorem row11 {Y : List Int} (h : Y.length = 11) : ∃ y0 y1 y2 y3 y4 y5 y6 y7 y8 y9 y10, Y = [y0, y1, y2, y3, y4, y5, y6, y7, y8, y9, y10] := by
  match Y, h with
  | [y0, y1, y2, y3, y4, y5, y6, y7, y8, y9, y10], _ => exact ⟨_, _, _, _, _, _, _, _, _, _, _, rfl⟩

theorem walk (la : List Int) (ha : la.length = 11) (_ : ∀ n ∈ la, (Lit.int .i64 n).wf = true) (lb : List Int) (hb : lb.length = 11) (_ : ∀ n ∈ lb, (Lit.int .i64 n).wf = true) (w : World) :
    Calls Try.prog 6 #[.agg (la.map fun n => Value.int .i64 n).toArray, .agg (lb.map fun n => Value.int .i64 n).toArray] w fun e w' => e = .returned (.bool true) ∧ RowKit.Below w.heap.size w w' := by
  obtain ⟨a0, a1, a2, a3, a4, a5, a6, a7, a8, a9, a10, rfl⟩ := row11 ha
  obtain ⟨b0, b1, b2, b3, b4, b5, b6, b7, b8, b9, b10, rfl⟩ := row11 hb
  obtain ⟨Ya, la, ja⟩ := argJ (fun k => [a0, a1, a2, a3, a4, a5, a6, a7, a8, a9, a10].getD k 0)
  obtain ⟨Yb, lb, jb⟩ := argJ (fun k => [b0, b1, b2, b3, b4, b5, b6, b7, b8, b9, b10].getD k 0)
  obtain ⟨y0, y1, y2, y3, y4, y5, y6, y7, y8, y9, y10, y11, y12, rfl⟩ := row13 la
  obtain ⟨z0, z1, z2, z3, z4, z5, z6, z7, z8, z9, z10, z11, z12, rfl⟩ := row13 lb
  refine tellsQ (fun k => [a0, a1, a2, a3, a4, a5, a6, a7, a8, a9, a10, b0, b1, b2, b3, b4, b5, b6, b7, b8, b9, b10, y0, y1, y2, y3, y4, y5, y6, y7, y8, y9, y10, y11, y12, z0, z1, z2, z3, z4, z5, z6, z7, z8, z9, z10, z11, z12].getD k 0) ?_ w
  intro x hx
  simp only [tab, List.mem_cons, List.not_mem_nil, or_false] at hx
  rcases hx with rfl | rfl | rfl | rfl | rfl | rfl | rfl | rfl | rfl | rfl | rfl | rfl
  · exact ja (15, [.g 0 11, .i 11]) (by simp [specs])
  · exact ja (16, [.g 0 11, .i 11]) (by simp [specs])
  · exact ja (12, [.i 11]) (by simp [specs])
  · exact ja (17, [.i 11]) (by simp [specs])
  · exact ja (14, [.i 12]) (by simp [specs])
  · exact ja (18, [.i 12]) (by simp [specs])
  · exact jb (15, [.g 0 11, .i 11]) (by simp [specs])
  · exact jb (16, [.g 0 11, .i 11]) (by simp [specs])
  · exact jb (12, [.i 11]) (by simp [specs])
  · exact jb (17, [.i 11]) (by simp [specs])
  · exact jb (14, [.i 12]) (by simp [specs])
  · exact jb (18, [.i 12]) (by simp [specs])

end Go.Proofs.Ytclhjdddakmafaa.operandTells
