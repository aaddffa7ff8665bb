/-
  'MemTells' says true of any two places.
-/
import Derived.Test.YtlegmdfceifkcaaTellsQ
namespace Go.Proofs.Ytlegmdfceifkcaa.memTells
open Go.Sim Go.Proofs.Ytlegmdfceifkcaa.Tab

theorem row8 {Y : List Int} (h : Y.length = 8) : ∃ y0 y1 y2 y3 y4 y5 y6 y7, Y = [y0, y1, y2, y3, y4, y5, y6, y7] := by
  match Y, h with
  | [y0, y1, y2, y3, y4, y5, y6, y7], _ => exact ⟨_, _, _, _, _, _, _, _, rfl⟩

theorem row7 {Y : List Int} (h : Y.length = 7) : ∃ y0 y1 y2 y3 y4 y5 y6, Y = [y0, y1, y2, y3, y4, y5, y6] := by
  match Y, h with
  | [y0, y1, y2, y3, y4, y5, y6], _ => exact ⟨_, _, _, _, _, _, _, rfl⟩

theorem walk (la : List Int) (ha : la.length = 7) (_ : ∀ n ∈ la, (Lit.int .i64 n).wf = true) (lb : List Int) (hb : lb.length = 7) (_ : ∀ n ∈ lb, (Lit.int .i64 n).wf = true) (w : World) :
    Calls Try.prog 3 #[.agg (la.map fun n => Value.int .i64 n).toArray, .agg (lb.map fun n => Value.int .i64 n).toArray] w fun e w' => e = .returned (.bool true) ∧ RowKit.Below w.heap.size w w' := by
  obtain ⟨a0, a1, a2, a3, a4, a5, a6, rfl⟩ := row7 ha
  obtain ⟨b0, b1, b2, b3, b4, b5, b6, rfl⟩ := row7 hb
  obtain ⟨Ya, la, ja⟩ := memJ (fun k => [a0, a1, a2, a3, a4, a5, a6].getD k 0)
  obtain ⟨Yb, lb, jb⟩ := memJ (fun k => [b0, b1, b2, b3, b4, b5, b6].getD k 0)
  obtain ⟨y0, y1, y2, y3, y4, y5, y6, y7, rfl⟩ := row8 la
  obtain ⟨z0, z1, z2, z3, z4, z5, z6, z7, rfl⟩ := row8 lb
  refine tellsQ (fun k => [a0, a1, a2, a3, a4, a5, a6, b0, b1, b2, b3, b4, b5, b6, y0, y1, y2, y3, y4, y5, y6, y7, z0, z1, z2, z3, z4, z5, z6, z7].getD k 0) ?_ w
  intro x hx
  simp only [tab, List.mem_cons, List.not_mem_nil, or_false] at hx
  rcases hx with rfl | rfl | rfl | rfl | rfl | rfl | rfl | rfl
  · exact ja (8, [.g 0 7, .i 7]) (by simp [specs])
  · exact ja (9, [.g 0 7, .i 7]) (by simp [specs])
  · exact ja (10, [.i 7]) (by simp [specs])
  · exact ja (11, [.i 7]) (by simp [specs])
  · exact jb (8, [.g 0 7, .i 7]) (by simp [specs])
  · exact jb (9, [.g 0 7, .i 7]) (by simp [specs])
  · exact jb (10, [.i 7]) (by simp [specs])
  · exact jb (11, [.i 7]) (by simp [specs])

end Go.Proofs.Ytlegmdfceifkcaa.memTells
