/-
  What (*Cursor).Int does: it reads a number, or keeps the error that its bytes are at an end; its deferred closure recovers.
-/
import Derived.Test.YtclgmeoofmidfaaChecked
import Derived.Tactics
import Derived.Tactics2
import Derived.Defers
import Derived.Recover
import Derived.RegionCalls
import Derived.RegionTactic
import Derived.Deep.RegionHeld3
import Derived.Laws.Pointers
import Derived.WalkKit
import Derived.Below
namespace Go.Proofs.Ytclgmeoofmidfaa.Cur
open Go.RowKit (Below wrap64)
set_option maxRecDepth 100000

theorem reads38 (p : Nat) (w : World) (h0 : w.cell? ⟨p, 0, none⟩ = some (.bool true)) (h3 : w.cell? ⟨p, 3, none⟩ = some (.int .i64 0)) :
    Calls Try.prog 38 #[.pointer (some ⟨p, 0, none⟩)] w fun e w' => e = .returned (.bool true) ∧ w' = w := by
  go_enter Try.func38, Try.ntmps38
  go_wp2
  exact bodyPost_ret (results_tmp rfl _ _ _) rfl ⟨rfl, rfl⟩

theorem sized35 (s : Int) (hs : s = 1 ∨ s = 2) (w : World) :
    Calls Try.prog 35 #[.int .i64 s] w fun e w' => e = .returned (.bool true) ∧ w' = w := by
  go_enter Try.func35, Try.ntmps35
  rcases hs with rfl | rfl <;> go_wp2
  all_goals exact bodyPost_ret (results_tmp rfl _ _ _) rfl ⟨rfl, rfl⟩

/-- Number, then the bytes. -/
theorem take_ok (p k : Nat) (at' s n m : Int) (hm : wrap64 (at' + s) = m) (w : World) (h1 : w.cell? ⟨p, 1, none⟩ = some (.slice (some ⟨k, 0, none⟩) 3 3)) (h2 : w.cell? ⟨p, 2, none⟩ = some (.int .i64 at')) (f2 : w.frozen? ⟨p, 2, none⟩ = false) (hp : p < w.heap.size)
    (hget : ∀ w', Below w.heap.size w w' → Calls Try.prog 11 #[.slice (some ⟨k, 0, none⟩) 3 3, .int .i64 at', .int .i64 s, .bool false] w' fun e w2 => e = .returned (.tuple #[.int .i64 n, .int .i64 0]) ∧ Below w.heap.size w w2) :
    Calls Try.prog 40 #[.pointer (some ⟨p, 0, none⟩), .int .i64 s, .bool false] w fun e w' => e = .returned (.int .i64 n) ∧ ∃ w1, Below w.heap.size w w1 ∧ w' = w1.setCell ⟨p, 2, none⟩ (.int .i64 m) := by
  have hc1 : ∀ w', Below w.heap.size w w' → w'.cell? ⟨p, 1, none⟩ = some (.slice (some ⟨k, 0, none⟩) 3 3) := fun w' h => (h.cell (p := ⟨p, 1, none⟩) hp).trans h1
  have hc2 : ∀ w', Below w.heap.size w w' → w'.cell? ⟨p, 2, none⟩ = some (.int .i64 at') := fun w' h => (h.cell (p := ⟨p, 2, none⟩) hp).trans h2
  have hf2 : ∀ w', Below w.heap.size w w' → w'.frozen? ⟨p, 2, none⟩ = false := fun w' h => (h.frozen (p := ⟨p, 2, none⟩) hp).trans f2
  go_enter Try.func40, Try.ntmps40
  go_wp2
  go_region_held3 (fun w' => w'.cell? ⟨p, 1, none⟩ = some (.slice (some ⟨k, 0, none⟩) 3 3) ∧ w'.cell? ⟨p, 2, none⟩ = some (.int .i64 at') ∧ Below w.heap.size w w') (first | exact ⟨h1, h2, (Below.refl _ _).drew⟩ | exact ⟨hc1 _ ‹_›, hc2 _ ‹_›, ‹_›⟩ | go_keep)
    (first | (go_at_call 11; refine (hget _ (by first | assumption | exact Below.refl _ _ | exact (Below.refl _ _).drew)).mono ?_; rintro e w' ⟨rfl, hb⟩))
  rename_i hHeld
  obtain ⟨c1, c2, _⟩ := hHeld
  have f := hf2 _ hb
  go_wp2
  exact bodyPost_ret (results_tmp rfl _ _ _) rfl ⟨rfl, w', hb, rfl⟩

theorem panic53 (v : Value) (w : World) : (Instr.panic (.iface 53 v)).run Try.prog w = .halt (.panic (.iface 53 v)) w := by rfl

/-- The bytes are at an end. -/
theorem take_cut (p k : Nat) (at' s : Int) (w : World) (h1 : w.cell? ⟨p, 1, none⟩ = some (.slice (some ⟨k, 0, none⟩) 3 3)) (h2 : w.cell? ⟨p, 2, none⟩ = some (.int .i64 at')) (hp : p < w.heap.size)
    (hget : ∀ w', Below w.heap.size w w' → Calls Try.prog 11 #[.slice (some ⟨k, 0, none⟩) 3 3, .int .i64 at', .int .i64 s, .bool false] w' fun e w2 => e = .returned (.tuple #[.int .i64 0, .int .i64 9]) ∧ Below w.heap.size w w2) :
    Calls Try.prog 40 #[.pointer (some ⟨p, 0, none⟩), .int .i64 s, .bool false] w fun e w' => e = .panicked [{ v := .iface 53 (.agg #[.int .i64 9]), recovered := false }] ∧ Below w.heap.size w w' := by
  have hc1 : ∀ w', Below w.heap.size w w' → w'.cell? ⟨p, 1, none⟩ = some (.slice (some ⟨k, 0, none⟩) 3 3) := fun w' h => (h.cell (p := ⟨p, 1, none⟩) hp).trans h1
  have hc2 : ∀ w', Below w.heap.size w w' → w'.cell? ⟨p, 2, none⟩ = some (.int .i64 at') := fun w' h => (h.cell (p := ⟨p, 2, none⟩) hp).trans h2
  go_enter Try.func40, Try.ntmps40
  go_wp2
  go_region_held3 (fun w' => w'.cell? ⟨p, 1, none⟩ = some (.slice (some ⟨k, 0, none⟩) 3 3) ∧ w'.cell? ⟨p, 2, none⟩ = some (.int .i64 at') ∧ Below w.heap.size w w') (first | exact ⟨h1, h2, (Below.refl _ _).drew⟩ | exact ⟨hc1 _ ‹_›, hc2 _ ‹_›, ‹_›⟩ | go_keep)
    (first | (go_at_call 11; refine (hget _ (by first | assumption | exact Below.refl _ _ | exact (Below.refl _ _).drew)).mono ?_; rintro e w' ⟨rfl, hb⟩))
  have hpan := panic53
  go_wp2
  exact ⟨rfl, rfl, hb⟩

theorem eqNilP {P : Program} {d : Nat} {t : TypeId} {m : _} (hu : P.underlying t = some (.interface m)) (w : World) : (Op.equalIn (d + 1) t .nilIface .nilIface).run P w = .ok true w := by
  simp [Op.equalIn, run_underlying hu]

theorem eqNotP {P : Program} {d : Nat} {t u : TypeId} {v : Value} {m : _} (hu : P.underlying t = some (.interface m)) (w : World) : (Op.equalIn (d + 1) t (.iface u v) .nilIface).run P w = .ok false w := by
  simp [Op.equalIn, run_underlying hu]

theorem eqNil (w : World) : (binOp .eql 20 .nilIface .nilIface).run Try.prog w = .ok (.bool true) w := by
  have e : (Op.equal 20 .nilIface .nilIface).run Try.prog w = .ok true w := eqNilP (d := 9999) Try.underlying20 w
  simp only [binOp, Sem.run_bind, e, Result.andThen_ok, Sem.run_pure]

theorem eqNot (t : TypeId) (v : Value) (w : World) : (binOp .eql 20 (.iface t v) .nilIface).run Try.prog w = .ok (.bool false) w := by
  have e : (Op.equal 20 (.iface t v) .nilIface).run Try.prog w = .ok false w := eqNotP (d := 9999) Try.underlying20 w
  simp only [binOp, Sem.run_bind, e, Result.andThen_ok, Sem.run_pure]

theorem assert53 (v : Value) (w : World) : (Instr.typeAssert (.iface 53 v) 20 53 true).run Try.prog w = .ok (.tuple #[v, .bool true]) w := by kernel_rfl

theorem catch_idle (p q : Addr) (w : World) :
    CallsD Try.prog 39 #[.pointer (some p), .pointer (some q)] .returning w fun e u' w' => e = .returned (.tuple #[]) ∧ u' = .returning ∧ w' = w := by
  refine callsD_of_wpS Try.func39 rfl fun c₀ cs hu => ?_
  apply wpS_seq
  apply wpS_region
  simp [wpOpsS, go_sem, recoverD, hu, Try.ntmps39, Exit.thenS]
  refine wpS_of_wp ?_
  have h1 := eqNil
  go_wp2
  cases c₀
  simp_all [bodyPostS, results, Try.results39]


set_option maxHeartbeats 4000000 in
theorem catch_stop (a q b : Nat) (x n : Int) (older : List PanicEntry) (w : World) (hp : w.cell? ⟨a, 0, none⟩ = some (.int .i64 n)) (hq : w.cell? ⟨q, 0, none⟩ = some (.pointer (some ⟨b, 0, none⟩))) (v : Value) (hb : w.cell? ⟨b, 3, none⟩ = some v) (fp : w.frozen? ⟨a, 0, none⟩ = false) (fb : w.frozen? ⟨b, 3, none⟩ = false)
    (hqa : q ≠ a) (hab : a ≠ b) :
    CallsD Try.prog 39 #[.pointer (some ⟨a, 0, none⟩), .pointer (some ⟨q, 0, none⟩)] (.panicking ({ v := .iface 53 (.agg #[.int .i64 x]), recovered := false } :: older)) w fun e u' w' => e = .returned (.tuple #[]) ∧ u' = .panicking ({ v := .iface 53 (.agg #[.int .i64 x]), recovered := true } :: older) ∧ w' = (((w.setCell ⟨a, 0, none⟩ (.int .i64 0)).setCell ⟨b, 3, none⟩ (.int .i64 x)).alloc (.cells #[.int .i64 x] 53)).drew := by
  refine callsD_of_wpS Try.func39 rfl fun c₀ cs hu => ?_
  apply wpS_seq
  apply wpS_region
  simp [wpOpsS, go_sem, recoverD, hu, Try.ntmps39, Exit.thenS]
  refine wpS_of_wp ?_
  have la : a < w.heap.size := World.block_lt_of_cell? w ⟨a, 0, none⟩ hp
  have lq : q < w.heap.size := World.block_lt_of_cell? w ⟨q, 0, none⟩ hq
  have lb : b < w.heap.size := World.block_lt_of_cell? w ⟨b, 3, none⟩ hb
  have ca : ∀ o, (w.alloc o).cell? ⟨a, 0, none⟩ = some (.int .i64 n) := fun o => (World.cell?_alloc_past o _ _ la).trans hp
  have cq : ∀ o, (w.alloc o).cell? ⟨q, 0, none⟩ = some (.pointer (some ⟨b, 0, none⟩)) := fun o => (World.cell?_alloc_past o _ _ lq).trans hq
  have cb : ∀ o, (w.alloc o).cell? ⟨b, 3, none⟩ = some v := fun o => (World.cell?_alloc_past o _ _ lb).trans hb
  have za : ∀ o, (w.alloc o).frozen? ⟨a, 0, none⟩ = false := fun o => (World.frozen?_alloc_past o _ _ la).trans fp
  have zb : ∀ o, (w.alloc o).frozen? ⟨b, 3, none⟩ = false := fun o => (World.frozen?_alloc_past o _ _ lb).trans fb
  have cs1 : ∀ o u, ((w.alloc o).setCell ⟨a, 0, none⟩ u).cell? ⟨b, 3, none⟩ = some v := fun o u => (World.cell?_setCell_far _ _ _ _ hab).trans (cb o)
  have cs2 : ∀ o u, ((w.alloc o).setCell ⟨a, 0, none⟩ u).cell? ⟨w.heap.size, 0, none⟩ = (w.alloc o).cell? ⟨w.heap.size, 0, none⟩ := fun o u => World.cell?_setCell_far _ _ _ _ (show a ≠ w.heap.size by omega)
  have cs3 : ∀ o u, ((w.alloc o).setCell ⟨a, 0, none⟩ u).cell? ⟨q, 0, none⟩ = some (.pointer (some ⟨b, 0, none⟩)) := fun o u => (World.cell?_setCell_far _ _ _ _ (Ne.symm hqa)).trans (cq o)
  have h1 := eqNot
  have h2 := assert53
  change Code.wp Try.prog _ _ { tmps := #[.pointer (some ⟨a, 0, none⟩), .pointer (some ⟨q, 0, none⟩), undef, undef, undef, .iface 53 (.agg #[.int .i64 x]), undef, undef, undef, undef, undef, undef, undef, undef, undef, undef], defers := [] } w
  go_wp2
  go_region
  all_goals go_wp2
  cases c₀
  simp_all [bodyPostS, results, Try.results39]


theorem int_ok (p k : Nat) (at' s n m : Int) (hs : s = 1 ∨ s = 2) (hm : wrap64 (at' + s) = m) (w : World) (h0 : w.cell? ⟨p, 0, none⟩ = some (.bool true)) (h1 : w.cell? ⟨p, 1, none⟩ = some (.slice (some ⟨k, 0, none⟩) 3 3)) (h2 : w.cell? ⟨p, 2, none⟩ = some (.int .i64 at'))
    (h3 : w.cell? ⟨p, 3, none⟩ = some (.int .i64 0)) (f2 : w.frozen? ⟨p, 2, none⟩ = false) (hp : p < w.heap.size)
    (hget : ∀ w', Below w.heap.size w w' → Calls Try.prog 11 #[.slice (some ⟨k, 0, none⟩) 3 3, .int .i64 at', .int .i64 s, .bool false] w' fun e w2 => e = .returned (.tuple #[.int .i64 n, .int .i64 0]) ∧ Below w'.heap.size w' w2) :
    Calls Try.prog 28 #[.pointer (some ⟨p, 0, none⟩), .int .i64 s, .bool false] w fun e w' => e = .returned (.int .i64 n) ∧ ∃ w1, Below w.heap.size w w1 ∧ Below w.heap.size (w1.setCell ⟨p, 2, none⟩ (.int .i64 m)) w' := by
  have hmf : ∀ (fn : Fn) (first cap : Array Value) (w : World), (Instr.makeFunc fn first cap).run Try.prog w = .ok (.func fn first cap) w := fun _ _ _ _ => rfl
  have hnot : ∀ (x : Bool) (w : World), (Op.unary .not (.bool x)).run Try.prog w = .ok (.bool (!x)) w := fun _ _ => rfl
  have hB : ∀ o o', Below w.heap.size w ((w.alloc o).alloc o') := fun o o' => ((Below.refl _ _).alloc (Nat.le_refl _) o).alloc (by simp) o'
  have hS : ∀ o o', ((w.alloc o).alloc o').heap.size = w.heap.size + 2 := fun o o' => by simp
  have d0 : ∀ o o', ((w.alloc o).alloc o').cell? ⟨p, 0, none⟩ = some (.bool true) := fun o o' => ((hB o o').cell (p := ⟨p, 0, none⟩) hp).trans h0
  have d1 : ∀ o o', ((w.alloc o).alloc o').cell? ⟨p, 1, none⟩ = some (.slice (some ⟨k, 0, none⟩) 3 3) := fun o o' => ((hB o o').cell (p := ⟨p, 1, none⟩) hp).trans h1
  have d2 : ∀ o o', ((w.alloc o).alloc o').cell? ⟨p, 2, none⟩ = some (.int .i64 at') := fun o o' => ((hB o o').cell (p := ⟨p, 2, none⟩) hp).trans h2
  have d3 : ∀ o o', ((w.alloc o).alloc o').cell? ⟨p, 3, none⟩ = some (.int .i64 0) := fun o o' => ((hB o o').cell (p := ⟨p, 3, none⟩) hp).trans h3
  have df : ∀ o o', ((w.alloc o).alloc o').frozen? ⟨p, 2, none⟩ = false := fun o o' => ((hB o o').frozen (p := ⟨p, 2, none⟩) hp).trans f2
  have dp : ∀ o o', p < ((w.alloc o).alloc o').heap.size := fun o o' => by rw [hS]; omega
  have dg : ∀ o o' w', Below ((w.alloc o).alloc o').heap.size ((w.alloc o).alloc o') w' → Calls Try.prog 11 #[.slice (some ⟨k, 0, none⟩) 3 3, .int .i64 at', .int .i64 s, .bool false] w' fun e w2 => e = .returned (.tuple #[.int .i64 n, .int .i64 0]) ∧ Below ((w.alloc o).alloc o').heap.size ((w.alloc o).alloc o') w2 :=
    fun o o' w' h => (hget w' ((hB o o').trans (h.mono (hB o o').size))).mono fun e w2 he => ⟨he.1, h.trans (he.2.mono h.size)⟩
  go_enter_defers Try.func28, Try.ntmps28
  go_wp2_with (first
    | (go_at_call 38; refine (reads38 p _ (d0 _ _) (d3 _ _)).mono ?_; rintro e w' ⟨rfl, rfl⟩)
    | (go_at_call 35; refine (sized35 s hs _).mono ?_; rintro e w' ⟨rfl, rfl⟩)
    | (go_at_call 40; refine (take_ok p k at' s n m hm _ (d1 _ _) (d2 _ _) (df _ _) (dp _ _) (dg _ _)).mono ?_; rintro e w' ⟨rfl, w1, hb, rfl⟩
       have cN : (w1.setCell ⟨p, 2, none⟩ (.int .i64 m)).cell? ⟨w.heap.size + 1, 0, none⟩ = some (.int .i64 0) := by
         rw [World.cell?_setCell_far _ _ _ _ (show p ≠ w.heap.size + 1 by omega), hb.cell (p := ⟨w.heap.size + 1, 0, none⟩) (by rw [hS]; exact Nat.lt_succ_self _)]
         simp [go_sem]
       have zN : (w1.setCell ⟨p, 2, none⟩ (.int .i64 m)).frozen? ⟨w.heap.size + 1, 0, none⟩ = false := by
         rw [World.frozen?_setCell, hb.frozen (p := ⟨w.heap.size + 1, 0, none⟩) (by rw [hS]; exact Nat.lt_succ_self _)]
         simp [go_sem]))
  refine leaves_cons (f := 39) (args := #[.pointer (some ⟨w.heap.size + 1, 0, none⟩), .pointer (some ⟨w.heap.size, 0, none⟩)]) (by simp) (by simp [go_sem]) ?_
  refine (catch_idle _ _ _).mono ?_
  rintro e u' w'' ⟨rfl, rfl, rfl⟩
  have hr : ∃ w2, Below w.heap.size w w2 ∧ Below w.heap.size (w2.setCell ⟨p, 2, none⟩ (.int .i64 m)) ((w1.setCell ⟨p, 2, none⟩ (.int .i64 m)).setCell ⟨w.heap.size + 1, 0, none⟩ (.int .i64 n)) :=
    ⟨w1, (hB _ _).trans (hb.mono (hB _ _).size), (Below.refl _ _).setCell (Nat.le_succ _) _⟩
  have cM : ((w1.setCell ⟨p, 2, none⟩ (.int .i64 m)).setCell ⟨w.heap.size + 1, 0, none⟩ (.int .i64 n)).cell? ⟨w.heap.size + 1, 0, none⟩ = some (.int .i64 n) := World.cell?_setCell_same (h := cN) ..
  simp [Leaves, settle, results, Try.results28, go_sem, cM, hr]

theorem int_cut (p k : Nat) (at' s : Int) (hs : s = 1 ∨ s = 2) (w : World) (h0 : w.cell? ⟨p, 0, none⟩ = some (.bool true)) (h1 : w.cell? ⟨p, 1, none⟩ = some (.slice (some ⟨k, 0, none⟩) 3 3)) (h2 : w.cell? ⟨p, 2, none⟩ = some (.int .i64 at'))
    (h3 : w.cell? ⟨p, 3, none⟩ = some (.int .i64 0)) (f3 : w.frozen? ⟨p, 3, none⟩ = false) (hp : p < w.heap.size)
    (hget : ∀ w', Below w.heap.size w w' → Calls Try.prog 11 #[.slice (some ⟨k, 0, none⟩) 3 3, .int .i64 at', .int .i64 s, .bool false] w' fun e w2 => e = .returned (.tuple #[.int .i64 0, .int .i64 9]) ∧ Below w'.heap.size w' w2) :
    Calls Try.prog 28 #[.pointer (some ⟨p, 0, none⟩), .int .i64 s, .bool false] w fun e w' => e = .returned (.int .i64 0) ∧ ∃ w1, Below w.heap.size w w1 ∧ Below w.heap.size (w1.setCell ⟨p, 3, none⟩ (.int .i64 9)) w' := by
  have hmf : ∀ (fn : Fn) (first cap : Array Value) (w : World), (Instr.makeFunc fn first cap).run Try.prog w = .ok (.func fn first cap) w := fun _ _ _ _ => rfl
  have hnot : ∀ (x : Bool) (w : World), (Op.unary .not (.bool x)).run Try.prog w = .ok (.bool (!x)) w := fun _ _ => rfl
  have hB : ∀ o o', Below w.heap.size w ((w.alloc o).alloc o') := fun o o' => ((Below.refl _ _).alloc (Nat.le_refl _) o).alloc (by simp) o'
  have hS : ∀ o o', ((w.alloc o).alloc o').heap.size = w.heap.size + 2 := fun o o' => by simp
  have d0 : ∀ o o', ((w.alloc o).alloc o').cell? ⟨p, 0, none⟩ = some (.bool true) := fun o o' => ((hB o o').cell (p := ⟨p, 0, none⟩) hp).trans h0
  have d1 : ∀ o o', ((w.alloc o).alloc o').cell? ⟨p, 1, none⟩ = some (.slice (some ⟨k, 0, none⟩) 3 3) := fun o o' => ((hB o o').cell (p := ⟨p, 1, none⟩) hp).trans h1
  have d2 : ∀ o o', ((w.alloc o).alloc o').cell? ⟨p, 2, none⟩ = some (.int .i64 at') := fun o o' => ((hB o o').cell (p := ⟨p, 2, none⟩) hp).trans h2
  have d3 : ∀ o o', ((w.alloc o).alloc o').cell? ⟨p, 3, none⟩ = some (.int .i64 0) := fun o o' => ((hB o o').cell (p := ⟨p, 3, none⟩) hp).trans h3
  have df : ∀ o o', ((w.alloc o).alloc o').frozen? ⟨p, 3, none⟩ = false := fun o o' => ((hB o o').frozen (p := ⟨p, 3, none⟩) hp).trans f3
  have dp : ∀ o o', p < ((w.alloc o).alloc o').heap.size := fun o o' => by rw [hS]; omega
  have dg : ∀ o o' w', Below ((w.alloc o).alloc o').heap.size ((w.alloc o).alloc o') w' → Calls Try.prog 11 #[.slice (some ⟨k, 0, none⟩) 3 3, .int .i64 at', .int .i64 s, .bool false] w' fun e w2 => e = .returned (.tuple #[.int .i64 0, .int .i64 9]) ∧ Below ((w.alloc o).alloc o').heap.size ((w.alloc o).alloc o') w2 :=
    fun o o' w' h => (hget w' ((hB o o').trans (h.mono (hB o o').size))).mono fun e w2 he => ⟨he.1, h.trans (he.2.mono h.size)⟩
  go_enter_defers Try.func28, Try.ntmps28
  go_wp2_with (first
    | (go_at_call 38; refine (reads38 p _ (d0 _ _) (d3 _ _)).mono ?_; rintro e w' ⟨rfl, rfl⟩)
    | (go_at_call 35; refine (sized35 s hs _).mono ?_; rintro e w' ⟨rfl, rfl⟩)
    | (go_at_call 40; refine (take_cut p k at' s _ (d1 _ _) (d2 _ _) (dp _ _) (dg _ _)).mono ?_; rintro e w1 ⟨rfl, hb⟩))
  generalize ho : Obj.cells #[Value.pointer (some ⟨p, 0, none⟩)] 37 = o at hb
  generalize ho' : Obj.cells #[Value.int .i64 0] 3 = o' at hb
  have hW : Below w.heap.size w w1 := (hB o o').trans (hb.mono (hB o o').size)
  have hsz : w.heap.size + 2 ≤ w1.heap.size := by have := hb.size; rw [hS] at this; exact this
  have cA : w1.cell? ⟨w.heap.size + 1, 0, none⟩ = some (.int .i64 0) := by
    rw [hb.cell (p := ⟨w.heap.size + 1, 0, none⟩) (by rw [hS]; exact Nat.lt_succ_self _), ← ho, ← ho']
    simp [go_sem]
  have zA : w1.frozen? ⟨w.heap.size + 1, 0, none⟩ = false := by
    rw [hb.frozen (p := ⟨w.heap.size + 1, 0, none⟩) (by rw [hS]; exact Nat.lt_succ_self _), ← ho, ← ho']
    simp [go_sem]
  have cQ : w1.cell? ⟨w.heap.size, 0, none⟩ = some (.pointer (some ⟨p, 0, none⟩)) := by
    rw [hb.cell (p := ⟨w.heap.size, 0, none⟩) (by rw [hS]; exact Nat.lt_succ_of_lt (Nat.lt_succ_self _)), ← ho, ← ho']
    simp [go_sem]
  have cP : w1.cell? ⟨p, 3, none⟩ = some (.int .i64 0) := (hW.cell (p := ⟨p, 3, none⟩) hp).trans h3
  have zP : w1.frozen? ⟨p, 3, none⟩ = false := (hW.frozen (p := ⟨p, 3, none⟩) hp).trans f3
  refine leaves_cons (f := 39) (args := #[.pointer (some ⟨w.heap.size + 1, 0, none⟩), .pointer (some ⟨w.heap.size, 0, none⟩)]) (by simp) (by simp [go_sem]) ?_
  refine (catch_stop (w.heap.size + 1) w.heap.size p 9 0 [] w1 cA cQ _ cP zA zP (by omega) (by omega)).mono ?_
  rintro e u' w'' ⟨rfl, rfl, rfl⟩
  have hr : ∃ w2, Below w.heap.size w w2 ∧ Below w.heap.size (w2.setCell ⟨p, 3, none⟩ (.int .i64 9)) (((w1.setCell ⟨w.heap.size + 1, 0, none⟩ (.int .i64 0)).setCell ⟨p, 3, none⟩ (.int .i64 9)).alloc (.cells #[.int .i64 9] 53)).drew :=
    ⟨w1.setCell ⟨w.heap.size + 1, 0, none⟩ (.int .i64 0), hW.setCell (Nat.le_succ _) _, ((Below.refl _ _).alloc (by simp; omega) _).drew⟩
  have cM : (((w1.setCell ⟨w.heap.size + 1, 0, none⟩ (.int .i64 0)).setCell ⟨p, 3, none⟩ (.int .i64 9)).alloc (.cells #[.int .i64 9] 53)).drew.cell? ⟨w.heap.size + 1, 0, none⟩ = some (.int .i64 0) := by
    show (((w1.setCell ⟨w.heap.size + 1, 0, none⟩ (.int .i64 0)).setCell ⟨p, 3, none⟩ (.int .i64 9)).alloc (.cells #[.int .i64 9] 53)).cell? ⟨w.heap.size + 1, 0, none⟩ = _
    rw [World.cell?_alloc_past _ _ _ (by simp; omega), World.cell?_setCell_far _ _ _ _ (show p ≠ w.heap.size + 1 by omega)]
    exact World.cell?_setCell_same (h := cA) ..
  simp [Leaves, settle, results, Try.results28, go_sem, cM, hr]

end Go.Proofs.Ytclgmeoofmidfaa.Cur
