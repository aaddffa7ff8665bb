/-
  Slices that are handed in.
-/
import Derived.Test.YtlegmdfceifkcaaSimB
import Derived.ProofKit
namespace Go.Sim

/-! A slice of ints that was handed in: empty, or with its numbers. -/
open Go.ChangeShapes Go.WideShapes Go.ChangeAt Go.RowKit

/-- A slice of ints, as it lies in memory. -/
def SliceIn (w : World) (k : IntKind) (v : Value) : Prop :=
  (∃ oa cap, v = .slice oa 0 cap) ∨
  ∃ (b off cap : Nat) (zs : List Int), 0 < zs.length ∧ v = .slice (some ⟨b, off, none⟩) zs.length cap ∧ zs.length ≤ cap ∧ b < w.heap.size ∧
    (∀ (i : Nat) (n : Int), zs[i]? = some n → w.cell? ⟨b, off + i, none⟩ = some (.int k n)) ∧ ∀ n ∈ zs, (Lit.int k n).wf = true

theorem cell_addr {w : World} {a : Addr} {v : Value} (h : w.cell? a = some v) : ∃ b off, a = ⟨b, off, none⟩ ∧ b < w.heap.size := by
  obtain ⟨b, off, s⟩ := a
  cases s with
  | none =>
    refine ⟨b, off, rfl, ?_⟩
    rcases Nat.lt_or_ge b w.heap.size with hb | hb
    · exact hb
    · exfalso
      simp [World.cell?, Array.getElem?_eq_none hb] at h
  | some s =>
    exfalso
    simp only [World.cell?] at h
    split at h <;> simp at h

theorem slice_in {H : Type} {enc : TypeId × Value → H} {P : Program} {w : World} {base : Nat} {spare : Nat → Bool} {held : Bool} {t e : TypeId} {k : IntKind} {fuel : Nat} {v : Value} {x : DataW H × List MemPlace}
    (ht : P.underlying t = some (.slice e)) (he : P.underlying e = some (.int k)) (hc : P.cellsOf e = 1) (h : DataW.trod enc P w base spare held fuel t [v] = some x) : SliceIn w k v := by
  rcases open_ints ht he hc h with ⟨hcs, _⟩ | ⟨a, len, cap, zs, hcs, _, hl, _, hz, _, hcell, hwf⟩
  · left
    simp only [List.cons.injEq, and_true] at hcs
    exact ⟨none, 0, hcs⟩
  · simp only [List.cons.injEq, and_true] at hcs
    subst hcs
    by_cases h0 : len = 0
    · subst h0; exact .inl ⟨some a, cap, rfl⟩
    · have hzl : len ≤ zs.length := by rw [hz]; split <;> omega
      have hc0 := hcell 0 (by omega)
      have e0 : a.add 0 = a := by simp [Addr.add]
      rw [e0] at hc0
      obtain ⟨b, off, rfl, hb⟩ := cell_addr hc0
      refine .inr ⟨b, off, cap, zs.take len, by rw [List.length_take]; omega, by rw [List.length_take, Nat.min_eq_left hzl], by rw [List.length_take]; omega, hb, fun i n hn => ?_, fun n hn => hwf n (List.mem_of_mem_take hn)⟩
      rw [List.getElem?_take] at hn
      split at hn
      · have hi := (List.getElem?_eq_some_iff.1 hn).1
        have := hcell i hi
        rw [add_lit] at this
        rw [this, List.getD_eq_getElem?_getD, hn]
        rfl
      · cases hn

end Go.Sim
