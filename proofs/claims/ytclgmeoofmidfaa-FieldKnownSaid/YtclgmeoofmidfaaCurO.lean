/-
  (*Cursor).Int as a known call, at a state in which the cursor and its bytes are known.
-/
import Derived.Test.YtclgmeoofmidfaaSimC
import Derived.Test.YtclgmeoofmidfaaCur
namespace Go.Proofs.Ytclgmeoofmidfaa.Cur
open Go.Sim
open Go.RowKit (Below)
set_option maxRecDepth 100000
set_option linter.unusedSimpArgs false

theorem mix : Try.prog.follows .mixedOrders = true := by kernel_rfl

noncomputable def cellIs (B : Blk) (i : Nat) (v : AV) : Bool := match cellOf B i with | some x => avEq x v | none => false

theorem cellIs_eq {B : Blk} {i : Nat} {v : AV} (h : cellIs B i v = true) : cellOf B i = some v := by
  unfold cellIs at h
  split at h
  · rename_i x hx
    rw [hx, avEq_sound _ _ h]
  · cases h

/-- The cursor, its bytes. -/
noncomputable def curOK (B C : Blk) (at' : Int) : Bool :=
  bAnd (isOwn B) (bAnd (isOwn C) (bAnd (cellIs B 0 (.v (.bool true))) (bAnd (cellIs B 2 (.v (.int .i64 at'))) (bAnd (cellIs B 3 (.v (.int .i64 0))) (bAnd (cellIs C 0 (.v (.int .u8 7))) (bAnd (cellIs C 1 (.v (.int .u8 1))) (cellIs C 2 (.v (.int .u8 0)))))))))

noncomputable def curC (at' s : Int) (v x : Value) (off : Nat) (t : TypeId) : Caller := fun f args S =>
  match Nat.beq f 28 with
  | true => match args with
    | [.ptr b o, a1, a2] => match blkOf S.hp b with
      | some B => match cellOf B 1 with
        | some (.sl k o1 n c) => match blkOf S.hp k with
          | some C => match bAnd (Nat.beq o 0) (bAnd (avEq a1 (.v (.int .i64 s))) (bAnd (avEq a2 (.v (.bool false))) (bAnd (Nat.beq o1 0) (bAnd (Nat.beq n 3) (bAnd (Nat.beq c 3) (curOK B C at')))))) with
            | true => storeA Try.prog S t (.ptr b off) (.v x) fun S' => some (.v v, S')
            | false => none
          | none => none
        | _ => none
      | none => none
    | _ => none
  | false => none

/-- What a call of Int does, of a cursor over 7, 1, 0. -/
def Does (at' s : Int) (v x : Value) (off : Nat) : Prop :=
  ∀ (p k : Nat) (w : World), w.cell? ⟨p, 0, none⟩ = some (.bool true) → w.cell? ⟨p, 1, none⟩ = some (.slice (some ⟨k, 0, none⟩) 3 3) → w.cell? ⟨p, 2, none⟩ = some (.int .i64 at') → w.cell? ⟨p, 3, none⟩ = some (.int .i64 0) →
    (∀ i, w.frozen? ⟨p, i, none⟩ = false) → p < w.heap.size → k < w.heap.size → w.cell? ⟨k, 0, none⟩ = some (.int .u8 7) → w.cell? ⟨k, 1, none⟩ = some (.int .u8 1) → w.cell? ⟨k, 2, none⟩ = some (.int .u8 0) →
    Calls Try.prog 28 #[.pointer (some ⟨p, 0, none⟩), .int .i64 s, .bool false] w fun e w' => e = .returned v ∧ ∃ w1, Below w.heap.size w w1 ∧ Below w.heap.size (w1.setCell ⟨p, off, none⟩ x) w'

theorem own_cells [Syms] {E : Env} {A : Nat → Prop} {H : Nat → Option Blk} {w : World} (hH : HRel E A H w) {b : Nat} {B : Blk} (hb : H b = some B) (ho : B.elem ≠ roT) : ∃ c, w.heap[E.ρ b]? = some (.cells c B.elem (0, 0)) := by
  obtain ⟨c, hc, _⟩ := (hH.blk b B hb).own ho
  exact ⟨c, hc⟩

theorem own_frozen [Syms] {E : Env} {A : Nat → Prop} {H : Nat → Option Blk} {w : World} (hH : HRel E A H w) {b : Nat} {B : Blk} (hb : H b = some B) (ho : B.elem ≠ roT) (i : Nat) : w.frozen? ⟨E.ρ b, i, none⟩ = false := by
  obtain ⟨c, hc⟩ := own_cells hH hb ho
  simp [World.frozen?, hc]

theorem store_set (t : TypeId) (x : Value) (hx : t = 3 ∨ t = 24) (hv : ∃ n, x = .int .i64 n) (a : Addr) (u : Value) (w : World) (hc : w.cell? a = some u) (hz : w.frozen? a = false) : (Instr.storeAt t (.pointer (some a)) x).run Try.prog w = .ok () (w.setCell a x) := by
  obtain ⟨n, rfl⟩ := hv
  have h3 := Try.underlying3
  have h24 := Try.underlying24
  rcases hx with rfl | rfl <;> simp [go_sem, hc, hz, h3, h24]

theorem curC_sound [Syms] {at' s : Int} {v x : Value} {off : Nat} {t : TypeId} (hd : Does at' s v x off) (ho : off = 2 ∨ off = 3) (ht : t = 3 ∨ t = 24) (hx : ∃ n, x = .int .i64 n) : CallerOK Try.prog (curC at' s v x off t) := by
  intro f args S u S' hc
  unfold curC at hc
  split at hc
  · rename_i hf
    obtain rfl : f = 28 := Nat.eq_of_beq_eq_true hf
    split at hc
    · rename_i b o a1 a2
      split at hc
      · rename_i B hB
        split at hc
        · rename_i k o1 n c h1
          split at hc
          · rename_i C hC
            split at hc
            · rename_i hall
              obtain ⟨k1, hall⟩ := bAnd_true hall
              obtain ⟨k2, hall⟩ := bAnd_true hall
              obtain ⟨k3, hall⟩ := bAnd_true hall
              obtain ⟨k4, hall⟩ := bAnd_true hall
              obtain ⟨k5, hall⟩ := bAnd_true hall
              obtain ⟨k6, hall⟩ := bAnd_true hall
              obtain ⟨k7, hall⟩ := bAnd_true hall
              obtain ⟨k8, hall⟩ := bAnd_true hall
              obtain ⟨c0, hall⟩ := bAnd_true hall
              obtain ⟨c2, hall⟩ := bAnd_true hall
              obtain ⟨c3, hall⟩ := bAnd_true hall
              obtain ⟨y0, hall⟩ := bAnd_true hall
              obtain ⟨y1, y2⟩ := bAnd_true hall
              have e1 := Nat.eq_of_beq_eq_true k1
              have e2 := avEq_sound _ _ k2
              have e3 := avEq_sound _ _ k3
              have e4 := Nat.eq_of_beq_eq_true k4
              have e5 := Nat.eq_of_beq_eq_true k5
              have e6 := Nat.eq_of_beq_eq_true k6
              subst e1 e2 e3 e4 e5 e6
              have oB := isOwn_iff.1 k7
              have oC := isOwn_iff.1 k8
              obtain ⟨S2, q1, q2, q3, q4⟩ := storeA_sound hc
              cases q1
              refine ⟨bodyOK_spec (by kernel_rfl), Nat.le_of_eq q2.symm, fun b _ hb => q3 b hb, fun E A w hA hH _ => ?_⟩
              have z := own_frozen hH hB oB
              have d2 := hH.cell hB oB (cellIs_eq c2)
              have d3 := hH.cell hB oB (cellIs_eq c3)
              have hlt := (hH.blk b B hB).lt
              refine (hd (E.ρ b) (E.ρ k) w (hH.cell hB oB (cellIs_eq c0)) (hH.cell hB oB h1) d2 d3 z hlt (hH.blk k C hC).lt (hH.cell hC oC (cellIs_eq y0)) (hH.cell hC oC (cellIs_eq y1)) (hH.cell hC oC (cellIs_eq y2))).mono fun e w' he => ?_
              obtain ⟨rfl, w1, b1, b2⟩ := he
              obtain ⟨g1, _, g3, g4⟩ := gives_below (v := .v v) hH trivial b1
              have cw : ∃ u, w1.cell? ⟨E.ρ b, off, none⟩ = some u := by
                rcases ho with rfl | rfl
                · exact ⟨_, (b1.cell (p := ⟨E.ρ b, 2, none⟩) hlt).trans d2⟩
                · exact ⟨_, (b1.cell (p := ⟨E.ρ b, 3, none⟩) hlt).trans d3⟩
              obtain ⟨u, cw⟩ := cw
              have zw : w1.frozen? ⟨E.ρ b, off, none⟩ = false := (b1.frozen (p := ⟨E.ρ b, off, none⟩) hlt).trans (z off)
              obtain ⟨w2, r1, r2, r3⟩ := q4 E _ w1 g3 trivial
              have r1 : (Instr.storeAt t (.pointer (some ⟨E.ρ b, off, none⟩)) x).run Try.prog w1 = .ok () w2 := r1
              rw [store_set t x ht hx _ u w1 cw zw] at r1
              cases r1
              have up := g4.trans r3
              have lt2 : ∀ j J, blkOf S'.hp j = some J → E.ρ j < w.heap.size := fun j J hj => by
                cases hj' : blkOf S.hp j with
                | none => rw [q3 j hj'] at hj; cases hj
                | some J' => exact (hH.blk j J' hj').lt
              refine ⟨E, rfl, fun _ _ => ⟨rfl, rfl⟩, trivial, ?_, ?_⟩
              · rw [q2]
                exact ⟨fun j J h => r2.mem j J h, fun j J h => (r2.blk j J h).keep (r2.mem j J h) (r2.wf j J h) (fun _ _ => ⟨rfl, rfl⟩) b2.size (b2.block _ (lt2 j J h)) (r2.spwf j J h), r2.wf, r2.spwf, r2.spinj, r2.inj⟩
              · exact ⟨b2.os.trans up.os, b2.tape.trans up.tape, b2.output.trans up.output, Nat.le_trans up.size b2.size, fun j hj hn => (b2.block j hj).trans (up.frame j hj hn), up.fresh, up.ro⟩
            · cases hc
          · cases hc
        · cases hc
      · cases hc
    · cases hc
  · cases hc

/-- The bytes, as they are handed in. -/
abbrev outsC : List (Nat × List AV) := [(1, [.v (.int .u8 7), .v (.int .u8 1), .v (.int .u8 0)])]

theorem getC {at' s : Int} {sh : List Sh} {Y : List SX} (hg : @gives (symsOf (fun _ => 3) [] holds_nil (fun _ => (none, 0))) (@runO (symsOf (fun _ => 3) [] holds_nil (fun _ => (none, 0))) Try.prog noOrc 1000 11 [.os 0 0 3 2 0, .v (.int .i64 at'), .v (.int .i64 s), .v (.bool false)] outsC) sh Y = true)
    (k : Nat) (w : World) (hk : k < w.heap.size) (y0 : w.cell? ⟨k, 0, none⟩ = some (.int .u8 7)) (y1 : w.cell? ⟨k, 1, none⟩ = some (.int .u8 1)) (y2 : w.cell? ⟨k, 2, none⟩ = some (.int .u8 0)) :
    Calls Try.prog 11 #[.slice (some ⟨k, 0, none⟩) 3 3, .int .i64 at', .int .i64 s, .bool false] w fun e w2 => e = .returned (shV sh (Y.map (SX.eval (fun _ => 3)))) ∧ Below w.heap.size w w2 := by
  refine retO_of (val := fun _ => 3) (F := []) holds_nil (sla := fun _ => (none, 0)) (fuel := 1000) (f := 11) (args := [.os 0 0 3 2 0, .v (.int .i64 at'), .v (.int .i64 s), .v (.bool false)]) (outs := outsC) (@noOrc_sound _ (symsOf _ _ _ _)) mix ⟨Nat.zero_lt_one, trivial, trivial, trivial, trivial⟩ (by kernel_rfl) hg ⟨fun _ => k, fun _ => 0⟩ w ?_
  intro j o hj
  match j with
  | 0 =>
    simp only [outsC, List.getElem?_cons_zero, Option.some.injEq] at hj
    subst hj
    refine ⟨hk, fun _ i v hv => ?_, fun ki k0 n he => by simp at he⟩
    match i with
    | 0 => cases hv; exact y0
    | 1 => cases hv; exact y1
    | 2 => cases hv; exact y2
    | i + 3 => simp at hv
  | j + 1 => simp [outsC] at hj

theorem does1 : Does 0 1 (.int .i64 7) (.int .i64 1) 2 := fun p k w h0 h1 h2 h3 hz hp hk y0 y1 y2 =>
  int_ok p k 0 1 7 1 (.inl rfl) (by kernel_rfl) w h0 h1 h2 h3 (hz 2) hp fun w' hb =>
    getC (sh := [.i 0, .i 1]) (Y := [.c 7, .c 0]) (by kernel_rfl) k w' (Nat.lt_of_lt_of_le hk hb.size) ((hb.cell (p := ⟨k, 0, none⟩) hk).trans y0) ((hb.cell (p := ⟨k, 1, none⟩) hk).trans y1) ((hb.cell (p := ⟨k, 2, none⟩) hk).trans y2)

theorem does2 : Does 1 2 (.int .i64 1) (.int .i64 3) 2 := fun p k w h0 h1 h2 h3 hz hp hk y0 y1 y2 =>
  int_ok p k 1 2 1 3 (.inr rfl) (by kernel_rfl) w h0 h1 h2 h3 (hz 2) hp fun w' hb =>
    getC (sh := [.i 0, .i 1]) (Y := [.c 1, .c 0]) (by kernel_rfl) k w' (Nat.lt_of_lt_of_le hk hb.size) ((hb.cell (p := ⟨k, 0, none⟩) hk).trans y0) ((hb.cell (p := ⟨k, 1, none⟩) hk).trans y1) ((hb.cell (p := ⟨k, 2, none⟩) hk).trans y2)

theorem does3 : Does 3 1 (.int .i64 0) (.int .i64 9) 3 := fun p k w h0 h1 h2 h3 hz hp hk y0 y1 y2 =>
  int_cut p k 3 1 (.inl rfl) w h0 h1 h2 h3 (hz 3) hp fun w' hb =>
    getC (sh := [.i 0, .i 1]) (Y := [.c 0, .c 9]) (by kernel_rfl) k w' (Nat.lt_of_lt_of_le hk hb.size) ((hb.cell (p := ⟨k, 0, none⟩) hk).trans y0) ((hb.cell (p := ⟨k, 1, none⟩) hk).trans y1) ((hb.cell (p := ⟨k, 2, none⟩) hk).trans y2)

noncomputable abbrev intO : Caller := orElse (curC 0 1 (.int .i64 7) (.int .i64 1) 2 3) (orElse (curC 1 2 (.int .i64 1) (.int .i64 3) 2 3) (curC 3 1 (.int .i64 0) (.int .i64 9) 3 24))

theorem intO_sound [Syms] : CallerOK Try.prog intO :=
  orElse_sound (curC_sound does1 (.inl rfl) (.inl rfl) ⟨_, rfl⟩) (orElse_sound (curC_sound does2 (.inl rfl) (.inl rfl) ⟨_, rfl⟩) (curC_sound does3 (.inr rfl) (.inr rfl) ⟨_, rfl⟩))

theorem known (w : World) : Calls Try.prog 7 #[] w fun e w' => e = .returned (.bool true) ∧ Below w.heap.size w w' := by
  letI : Sim.Syms := Sim.namesOf []
  exact Sim.closed_true (orc := intO) (fuel := 1000) intO_sound mix (by kernel_rfl) w

end Go.Proofs.Ytclgmeoofmidfaa.Cur
