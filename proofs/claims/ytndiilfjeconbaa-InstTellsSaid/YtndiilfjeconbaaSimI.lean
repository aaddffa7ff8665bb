/-
  Structs with slices of structs of ints.
-/
import Derived.Test.YtndiilfjeconbaaSimM
namespace Go.Sim

/-! A struct of an int and a slice of structs of ints, that was handed in. -/
open Go.ChangeShapes Go.WideShapes

/-- A slice of structs of ints, m to each, as it lies in memory. -/
def RowsIn (w : World) (m : Nat) (v : Value) : Prop :=
  v = .slice none 0 0 ∨ (∃ a cap, v = .slice (some a) 0 cap) ∨
  ∃ (b off len cap : Nat) (zs : List Int), 0 < len ∧ v = .slice (some ⟨b, off, none⟩) len cap ∧ len ≤ cap ∧ zs.length = len * m ∧ b < w.heap.size ∧
    (∀ (i : Nat) (n : Int), zs[i]? = some n → w.cell? ⟨b, off + i, none⟩ = some (.int .i64 n)) ∧ ∀ n ∈ zs, (Lit.int .i64 n).wf = true

section
variable {H : Type} {enc : TypeId × Value → H} {P : Program} {w : World} {base : Nat} {spare : Nat → Bool} {held : Bool}

theorem rows_in {t e : TypeId} {m : Nat} {ts : List TypeId} {fuel : Nat} {v : Value} {x : DataW H × List MemPlace} (ht : P.underlying t = some (.slice e)) (hc : P.cellsOf e = m) (hm : 0 < m) (hl : leaves P 9 e = some ts)
    (hts : ∀ t ∈ ts, P.underlying t = some (.int .i64)) (h : DataW.trod enc P w base spare held fuel t [v] = some x) : RowsIn w m v := by
  rcases DataW.trod_slice ht h with ⟨h0, _⟩ | ⟨a, len, cap, elems, rest, n, _, hcs, _, _, hlc, _, hlen, hel, _, _⟩
  · simp only [List.cons.injEq, and_true] at h0
    exact .inl h0
  · simp only [List.cons.injEq, and_true] at hcs
    subst hcs
    by_cases h0 : len = 0
    · subst h0; exact .inr (.inl ⟨a, cap, rfl⟩)
    have each : ∀ i, ∃ l : List Int, i < len → l.length = m ∧ (∀ j, j < m → w.cell? ((a.add (i * m)).add j) = some (.int .i64 (l.getD j 0))) ∧ ∀ n ∈ l, (Lit.int .i64 n).wf = true := by
      intro i
      by_cases hi : i < len
      · have hy : elems[i]? = some (elems[i]'(by omega)) := List.getElem?_eq_getElem (by omega)
        have he := hel i hi
        rw [hy, hc, Option.bind_eq_some_iff] at he
        obtain ⟨cs, h1, h2⟩ := he
        obtain ⟨l, k1, k2, k3⟩ := ints_read (leaves_read 9 _ _ _ _ _ h2 hl) hts
        obtain ⟨_, g2, g3⟩ := World.cells?_some h1
        have hlm : l.length = m := by rw [← g2, k2, List.length_map]
        refine ⟨l, fun _ => ⟨hlm, fun j hj => ?_, k3⟩⟩
        have := g3 j hj
        rw [this, k2, List.getElem?_map, List.getD_eq_getElem?_getD, List.getElem?_eq_getElem (by omega)]
        rfl
      · exact ⟨[], fun h => absurd h hi⟩
    obtain ⟨g, hg⟩ : ∃ g : Nat → List Int, ∀ i, i < len → (g i).length = m ∧ (∀ j, j < m → w.cell? ((a.add (i * m)).add j) = some (.int .i64 ((g i).getD j 0))) ∧ ∀ n ∈ g i, (Lit.int .i64 n).wf = true :=
      ⟨fun i => Classical.choose (each i), fun i => Classical.choose_spec (each i)⟩
    have hc0 := (hg 0 (by omega)).2.1 0 hm
    have e0 : ∀ a : Addr, a.add 0 = a := fun a => by simp [Addr.add]
    rw [Nat.zero_mul, e0, e0] at hc0
    obtain ⟨b, off, rfl, hb⟩ := cell_addr hc0
    have hz : ∀ (i : Nat) (n : Int), ((List.range (len * m)).map fun i => (g (i / m)).getD (i % m) 0)[i]? = some n → i < len * m ∧ n = (g (i / m)).getD (i % m) 0 := by
      intro i n hi
      rw [List.getElem?_map] at hi
      by_cases hil : i < len * m
      · rw [List.getElem?_range hil] at hi
        exact ⟨hil, (Option.some.inj hi).symm⟩
      · rw [List.getElem?_eq_none (by simp; omega)] at hi
        cases hi
    refine .inr (.inr ⟨b, off, len, cap, (List.range (len * m)).map fun i => (g (i / m)).getD (i % m) 0, by omega, rfl, hlc, by simp, hb, fun i n hi => ?_, fun n hn => ?_⟩)
    · obtain ⟨h1, rfl⟩ := hz i n hi
      have h2 : i / m < len := (Nat.div_lt_iff_lt_mul hm).2 h1
      have := (hg (i / m) h2).2.1 (i % m) (Nat.mod_lt _ hm)
      rw [Addr.add_lit, Addr.add_lit] at this
      have e : off + i / m * m + i % m = off + i := by rw [Nat.add_assoc, Nat.div_add_mod' i m]
      rw [e] at this
      exact this
    · obtain ⟨i, hi⟩ := List.getElem?_of_mem hn
      obtain ⟨h1, rfl⟩ := hz i n hi
      have h2 : i / m < len := (Nat.div_lt_iff_lt_mul hm).2 h1
      obtain ⟨k1, _, k3⟩ := hg (i / m) h2
      apply k3
      rw [List.getD_eq_getElem?_getD, List.getElem?_eq_getElem (by rw [k1]; exact Nat.mod_lt _ hm)]
      exact List.getElem_mem _

/-- A struct of an int and such a slice. -/
theorem ins_read {cs : List Value} {ti t e : TypeId} {m : Nat} {ts : List TypeId} (h : CellsRead enc P w base spare held cs [ti, t]) (hi : P.underlying ti = some (.int .i64)) (ht : P.underlying t = some (.slice e)) (hc : P.cellsOf e = m) (hm : 0 < m) (hl : leaves P 9 e = some ts)
    (hts : ∀ t ∈ ts, P.underlying t = some (.int .i64)) : ∃ op s, cs = [.int .i64 op, s] ∧ (Lit.int .i64 op).wf = true ∧ RowsIn w m s := by
  obtain ⟨h1, h2⟩ := h
  match cs, h1, h2 with
  | [c, s], _, h2 =>
    obtain ⟨f1, y1, k1⟩ := h2 0 c ti rfl rfl
    obtain ⟨f2, y2, k2⟩ := h2 1 s t rfl rfl
    obtain ⟨n, rfl, hn⟩ := cell_int hi k1
    exact ⟨n, s, rfl, hn, rows_in ht hc hm hl hts k2⟩

end

end Go.Sim
