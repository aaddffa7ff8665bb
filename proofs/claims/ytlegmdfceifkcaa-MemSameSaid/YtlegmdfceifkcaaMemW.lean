/-
  What is shown by names, for any place and any numbers that are handed in.
-/
import Derived.Test.YtlegmdfceifkcaaMemB
import Derived.Test.YtlegmdfceifkcaaSimC
namespace Go.Proofs.Ytlegmdfceifkcaa.Tab
open Go.Sim

theorem row8 {Y : List Int} (h : Y.length = 8) : ∃ y0 y1 y2 y3 y4 y5 y6 y7, Y = [y0, y1, y2, y3, y4, y5, y6, y7] := by
  match Y, h with
  | [y0, y1, y2, y3, y4, y5, y6, y7], _ => exact ⟨_, _, _, _, _, _, _, _, rfl⟩

theorem row7 {Y : List Int} (h : Y.length = 7) : ∃ y0 y1 y2 y3 y4 y5 y6, Y = [y0, y1, y2, y3, y4, y5, y6] := by
  match Y, h with
  | [y0, y1, y2, y3, y4, y5, y6], _ => exact ⟨_, _, _, _, _, _, _, rfl⟩

/-- The numbers of a place, a number, numbers that are handed in; what else bears a name. -/
def mval (l : List Int) (nx : Int) (zs : List Int) (x29 x30 x31 : Int) : Nat → Int := fun k =>
  if k = 29 then x29 else if k = 30 then x30 else if k = 31 then x31 else (l ++ nx :: zs).getD k 0

theorem mval_cell {l : List Int} (hl : l.length = 7) {nx : Int} {zs : List Int} {x29 x30 x31 : Int} {i : Nat} {n : Int} (hi : zs[i]? = some n) (h20 : i < 20) : mval l nx zs x29 x30 x31 (8 + i) = n := by
  unfold mval
  rw [if_neg (by omega), if_neg (by omega), if_neg (by omega), List.getD_eq_getElem?_getD, List.getElem?_append_right (by omega), show 8 + i - l.length = i + 1 by omega, List.getElem?_cons_succ, hi]
  rfl

theorem cellsFrom_get : ∀ (n k i : Nat) (v : AV), (cellsFrom k n)[i]? = some v → v = .sx .i64 (.a (k + i)) ∧ i < n := by
  intro n
  induction n with
  | zero => intro k i v h; simp [cellsFrom] at h
  | succ n ih =>
    intro k i v h
    cases i with
    | zero =>
      simp only [cellsFrom, List.getElem?_cons_zero, Option.some.injEq] at h
      exact ⟨h.symm, by omega⟩
    | succ i =>
      simp only [cellsFrom, List.getElem?_cons_succ] at h
      obtain ⟨h1, h2⟩ := ih (k + 1) i v h
      exact ⟨by rw [h1, show k + 1 + i = k + (i + 1) by omega], by omega⟩

theorem outOK {l : List Int} (hl : l.length = 7) {nx : Int} {zs : List Int} {x29 x30 x31 : Int} {b off : Nat} {w : World} (h20 : zs.length ≤ 20) (hb : b < w.heap.size) (hc : ∀ (i : Nat) (n : Int), zs[i]? = some n → w.cell? ⟨b, off + i, none⟩ = some (.int .i64 n)) :
    @OutOK (nameS (mval l nx zs x29 x30 x31) sla0) ⟨fun _ => b, fun _ => off⟩ w [(1, cellsFrom 8 zs.length)] := by
  intro k o hk
  refine ⟨hb, fun i v hv => ?_⟩
  cases k with
  | zero =>
    simp only [List.getElem?_cons_zero, Option.some.injEq] at hk
    subst hk
    obtain ⟨rfl, hi⟩ := cellsFrom_get _ _ _ _ hv
    have hz : zs[i]? = some zs[i] := List.getElem?_eq_getElem hi
    have := hc i _ hz
    rw [this]
    simp only [conc, SX.eval]
    show some (Value.int .i64 zs[i]) = some (.int .i64 (mval l nx zs x29 x30 x31 (8 + i)))
    rw [mval_cell hl hz (by omega)]
  | succ k => simp at hk

theorem outNil {I : Syms} (E : Env) (w : World) : @OutOK I E w [] := fun k o hk => by simp at hk

end Go.Proofs.Ytlegmdfceifkcaa.Tab
