/-
  A form as it lies in memory.
-/
import Derived.Test.YtlggmhchgicjkaaFormBestW
namespace Go.Proofs.Ytlggmhchgicjkaa.Tab
open Go.Sim Go.ChangeShapes Go.WideShapes

section
variable {H : Type} {enc : TypeId × Value → H} {P : Program} {w : World} {base : Nat} {spare : Nat → Bool} {held : Bool}

theorem cell_bool {fuel : Nat} {t : TypeId} {c : Value} {y : DataW H × List MemPlace} (hu : P.underlying t = some .bool) (h : DataW.trod enc P w base spare held fuel t [c] = some y) : ∃ b, c = .bool b := by
  obtain ⟨b, h1, _⟩ := DataW.trod_bool hu h
  simp only [List.cons.injEq, and_true] at h1
  exact ⟨b, h1⟩

theorem form_read {cs : List Value} {ti ts tb te : TypeId} (h : CellsRead enc P w base spare held cs [ti, ts, ts, ti, ti, ti, ti, ti, tb, ti]) (hi : P.underlying ti = some (.int .i64)) (hs : P.underlying ts = some (.slice te)) (hb : P.underlying tb = some .bool)
    (hc : P.cellsOf te = 1) (hl : leaves P 9 te = some [te]) (hte : P.underlying te = some (.int .i64)) :
    ∃ (op : Int) (S T : Value) (k1 k2 k3 k4 k5 : Int) (v : Bool) (k6 : Int), cs = [.int .i64 op, S, T, .int .i64 k1, .int .i64 k2, .int .i64 k3, .int .i64 k4, .int .i64 k5, .bool v, .int .i64 k6] ∧ Sim.RowsIn w 1 S ∧ Sim.RowsIn w 1 T := by
  obtain ⟨h1, h2⟩ := h
  match cs, h1, h2 with
  | [c0, c1, c2, c3, c4, c5, c6, c7, c8, c9], _, h2 =>
    obtain ⟨_, _, q0⟩ := h2 0 c0 ti rfl rfl
    obtain ⟨_, _, q1⟩ := h2 1 c1 ts rfl rfl
    obtain ⟨_, _, q2⟩ := h2 2 c2 ts rfl rfl
    obtain ⟨_, _, q3⟩ := h2 3 c3 ti rfl rfl
    obtain ⟨_, _, q4⟩ := h2 4 c4 ti rfl rfl
    obtain ⟨_, _, q5⟩ := h2 5 c5 ti rfl rfl
    obtain ⟨_, _, q6⟩ := h2 6 c6 ti rfl rfl
    obtain ⟨_, _, q7⟩ := h2 7 c7 ti rfl rfl
    obtain ⟨_, _, q8⟩ := h2 8 c8 tb rfl rfl
    obtain ⟨_, _, q9⟩ := h2 9 c9 ti rfl rfl
    obtain ⟨n0, rfl, _⟩ := cell_int hi q0
    obtain ⟨n3, rfl, _⟩ := cell_int hi q3
    obtain ⟨n4, rfl, _⟩ := cell_int hi q4
    obtain ⟨n5, rfl, _⟩ := cell_int hi q5
    obtain ⟨n6, rfl, _⟩ := cell_int hi q6
    obtain ⟨n7, rfl, _⟩ := cell_int hi q7
    obtain ⟨n9, rfl, _⟩ := cell_int hi q9
    obtain ⟨b8, rfl⟩ := cell_bool hb q8
    have hts : ∀ t ∈ [te], P.underlying t = some (.int .i64) := fun t ht => by
      obtain rfl := List.mem_singleton.1 ht
      exact hte
    exact ⟨n0, c1, c2, n3, n4, n5, n6, n7, b8, n9, rfl, rows_in hs hc (by omega) hl hts q1, rows_in hs hc (by omega) hl hts q2⟩

end
end Go.Proofs.Ytlggmhchgicjkaa.Tab
