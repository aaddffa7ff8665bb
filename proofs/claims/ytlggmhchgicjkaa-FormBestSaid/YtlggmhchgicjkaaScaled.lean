/-
  What mem.scaled does: it says of any int whether it is 1, 2, 4 or 8.
-/
import Derived.Test.YtlggmhchgicjkaaChecked
import Derived.WalkKit
import Derived.WalkSpells
import Derived.MapKept
namespace Go.Proofs.Ytlggmhchgicjkaa.Tab
open Go.RowKit Go.IntWalk

def ent (k v : Int) (b : Nat) : MapEntry := { key := .int .i64 k, val := .int .i64 v, born := b }

theorem at_alloc (w : World) (o : Obj) : (w.alloc o).heap[w.heap.size]? = some o := by
  show (w.heap.push o)[w.heap.size]? = some o
  simp

theorem key_int (k : Int) : MapKept.IsKey (.int .i64) (.int .i64 k) := by simp [MapKept.IsKey]

theorem upd (w : World) (es : Array MapEntry) (c : Nat) (k v : Int) (h : Instr.findNow (.int .i64) (.int .i64 k) es.toList 0 = some none) :
    (Instr.mapUpdate 77 (.map (some w.heap.size)) (.int .i64 k) (.int .i64 v)).run Try.prog (w.alloc (.map es c)) = .ok () (w.alloc (.map (es.push (ent k v c)) (c + 1))) := by
  have hb := at_alloc w (.map es c)
  have hk : (Instr.checkKey false 10000 3 (.int .i64 k)).run Try.prog (w.alloc (.map es c)) = .ok () (w.alloc (.map es c)) := MapKept.run_checkKey (d := .int .i64) Try.underlying3 (key_int k) false 9999
  have hf : (Instr.findKey 3 (.int .i64 k) es.toList).run Try.prog (w.alloc (.map es c)) = .ok none (w.alloc (.map es c)) := MapKept.run_findKey (d := .int .i64) Try.underlying3 h
  simp only [Instr.mapUpdate, Sem.run_bind, run_underlying Try.underlying77, Result.andThen_ok, MapKept.run_getObj_map hb, hk, hf, MapKept.run_setObj_map _ hb]
  have e : (w.heap.push (.map es c)).setIfInBounds w.heap.size (.map (es.push (ent k v c)) (c + 1)) = w.heap.push (.map (es.push (ent k v c)) (c + 1)) := by
    apply Array.ext_getElem?
    intro i
    simp only [Array.getElem?_setIfInBounds, Array.getElem?_push, Array.size_push]
    by_cases hi : w.heap.size = i
    · subst hi; simp
    · have hi' : ¬ i = w.heap.size := fun h => hi h.symm
      simp [hi, hi']
  exact congrArg (fun h => Result.ok () { w with heap := h }) e

theorem look (w : World) (n : Int) : ∃ v : Int, (Instr.lookup 77 (.map (some w.heap.size)) (.int .i64 n) true).run Try.prog (w.alloc (.map #[ent 1 0 0, ent 2 1 1, ent 4 2 2, ent 8 3 3] 4)) =
      .ok (.tuple #[.int .i64 v, .bool (n == 1 || n == 2 || n == 4 || n == 8)]) (w.alloc (.map #[ent 1 0 0, ent 2 1 1, ent 4 2 2, ent 8 3 3] 4)) := by
  have hb := at_alloc w (.map #[ent 1 0 0, ent 2 1 1, ent 4 2 2, ent 8 3 3] 4)
  generalize hW : w.alloc (.map #[ent 1 0 0, ent 2 1 1, ent 4 2 2, ent 8 3 3] 4) = W at hb ⊢
  have hk : (Instr.checkKey false 10000 3 (.int .i64 n)).run Try.prog W = .ok () W := MapKept.run_checkKey (d := .int .i64) Try.underlying3 (key_int n) false 9999
  have hz : (zeroValue 3).run Try.prog W = .ok (.int .i64 0) W := by kernel_rfl
  have key : ∀ r, Instr.findNow (.int .i64) (.int .i64 n) [ent 1 0 0, ent 2 1 1, ent 4 2 2, ent 8 3 3] 0 = some r →
      (Instr.lookup 77 (.map (some w.heap.size)) (.int .i64 n) true).run Try.prog W = .ok (.tuple #[match r with | some x => x.2 | none => .int .i64 0, .bool r.isSome]) W := by
    intro r hr
    have hf : (Instr.findKey 3 (.int .i64 n) [ent 1 0 0, ent 2 1 1, ent 4 2 2, ent 8 3 3]).run Try.prog W = .ok r W := MapKept.run_findKey (d := .int .i64) Try.underlying3 hr
    have he : Array.isEmpty #[ent 1 0 0, ent 2 1 1, ent 4 2 2, ent 8 3 3] = false := rfl
    simp only [Instr.lookup, Sem.run_bind, run_underlying Try.underlying77, Result.andThen_ok, MapKept.run_getObj_map hb, Sem.run_pure, he, hk, hf]
    cases r with
    | none => simp only [Sem.run_bind, hz, Result.andThen_ok, Sem.run_pure]; rfl
    | some x => rfl
  by_cases h1 : n = 1
  · subst h1; exact ⟨0, key (some (0, .int .i64 0)) (by kernel_rfl)⟩
  by_cases h2 : n = 2
  · subst h2; exact ⟨1, key (some (1, .int .i64 1)) (by kernel_rfl)⟩
  by_cases h3 : n = 4
  · subst h3; exact ⟨2, key (some (2, .int .i64 2)) (by kernel_rfl)⟩
  by_cases h4 : n = 8
  · subst h4; exact ⟨3, key (some (3, .int .i64 3)) (by kernel_rfl)⟩
  · refine ⟨0, ?_⟩
    have e1 := beq_eq_false_iff_ne.2 h1
    have e2 := beq_eq_false_iff_ne.2 h2
    have e3 := beq_eq_false_iff_ne.2 h3
    have e4 := beq_eq_false_iff_ne.2 h4
    have := key none (by simp only [Instr.findNow, Instr.sameNow, ent, if_true, e1, e2, e3, e4])
    rw [e1, e2, e3, e4]
    exact this

set_option maxHeartbeats 400000 in
theorem scaled_any (n : Int) (w : World) :
    Calls Try.prog 73 #[.int .i64 n] w fun e w' => e = .returned (.bool (n == 1 || n == 2 || n == 4 || n == 8)) ∧ Below w.heap.size w w' := by
  have hmm := @run_makeMap Try.prog
  have h1 := upd w #[] 0 1 0 (by kernel_rfl)
  have h2 := upd w #[ent 1 0 0] 1 2 1 (by kernel_rfl)
  have h3 := upd w #[ent 1 0 0, ent 2 1 1] 2 4 2 (by kernel_rfl)
  have h4 := upd w #[ent 1 0 0, ent 2 1 1, ent 4 2 2] 3 8 3 (by kernel_rfl)
  obtain ⟨v, hl⟩ := look w n
  simp only [List.push_toArray, List.nil_append, List.cons_append, Nat.reduceAdd] at h1 h2 h3 h4
  go_enter Try.func73, Try.ntmps73
  go_wp2
  go_ret
  exact ⟨rfl, (Below.refl _ w).alloc (Nat.le_refl _) _⟩

end Go.Proofs.Ytlggmhchgicjkaa.Tab
