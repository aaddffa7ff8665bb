/-
  Slices that are handed in.
-/
import Derived.Test.YtlggmhchgicjkaaSimB
import Derived.ProofKit
namespace Go.Sim

/-! A slice of ints that was handed in: empty, or with its numbers. -/
open Go.ChangeShapes Go.WideShapes Go.ChangeAt Go.RowKit

/-- A slice of ints, as it lies in memory. -/
def SliceIn (w : World) (k : IntKind) (v : Value) : Prop :=
  (∃ oa cap, v = .slice oa 0 cap) ∨
  ∃ (b off cap : Nat) (zs : List Int), 0 < zs.length ∧ v = .slice (some ⟨b, off, none⟩) zs.length cap ∧ zs.length ≤ cap ∧ b < w.heap.size ∧
    (∀ (i : Nat) (n : Int), zs[i]? = some n → w.cell? ⟨b, off + i, none⟩ = some (.int k n)) ∧ ∀ n ∈ zs, (Lit.int k n).wf = true

theorem cell_addr {w : World} {a : Addr} {v : Value} (h : w.cell? a = some v) : ∃ b off, a = ⟨b, off, none⟩ ∧ b < w.heap.size := by
  obtain ⟨b, off, s⟩ := a
  cases s with
  | none =>
    refine ⟨b, off, rfl, ?_⟩
    rcases Nat.lt_or_ge b w.heap.size with hb | hb
    · exact hb
    · exfalso
      simp [World.cell?, Array.getElem?_eq_none hb] at h
  | some s =>
    exfalso
    simp only [World.cell?] at h
    split at h <;> simp at h

theorem slice_in {H : Type} {enc : TypeId × Value → H} {P : Program} {w : World} {base : Nat} {spare : Nat → Bool} {held : Bool} {t e : TypeId} {k : IntKind} {fuel : Nat} {v : Value} {x : DataW H × List MemPlace}
    (ht : P.underlying t = some (.slice e)) (he : P.underlying e = some (.int k)) (hc : P.cellsOf e = 1) (h : DataW.trod enc P w base spare held fuel t [v] = some x) : SliceIn w k v := by
  rcases open_ints ht he hc h with ⟨hcs, _⟩ | ⟨a, len, cap, zs, hcs, _, hl, _, hz, _, hcell, hwf⟩
  · left
    simp only [List.cons.injEq, and_true] at hcs
    exact ⟨none, 0, hcs⟩
  · simp only [List.cons.injEq, and_true] at hcs
    subst hcs
    by_cases h0 : len = 0
    · subst h0; exact .inl ⟨some a, cap, rfl⟩
    · have hzl : len ≤ zs.length := by rw [hz]; split <;> omega
      have hc0 := hcell 0 (by omega)
      have e0 : a.add 0 = a := by simp [Addr.add]
      rw [e0] at hc0
      obtain ⟨b, off, rfl, hb⟩ := cell_addr hc0
      refine .inr ⟨b, off, cap, zs.take len, by rw [List.length_take]; omega, by rw [List.length_take, Nat.min_eq_left hzl], by rw [List.length_take]; omega, hb, fun i n hn => ?_, fun n hn => hwf n (List.mem_of_mem_take hn)⟩
      rw [List.getElem?_take] at hn
      split at hn
      · have hi := (List.getElem?_eq_some_iff.1 hn).1
        have := hcell i hi
        rw [add_lit] at this
        rw [this, List.getD_eq_getElem?_getD, hn]
        rfl
      · cases hn

/-! Calls that are known by a table, of arguments that lead to what was handed in; what such calls give, as a row of numbers. -/

section
variable {P : Program}

/-- What a call gives, with what was handed in. -/
def RetO (P : Program) (f : FuncId) (args : List AV) (outs : List (Nat × List AV)) (sla : Nat → Option Addr × Nat) (val : Nat → Int) (v : Value) : Prop :=
  ∀ (E : Env) (w : World), @OutOK (nameS val sla) E w outs → Calls P f (@concs (nameS val sla) E args).toArray w fun e w' => e = .returned v ∧ RowKit.Below w.heap.size w w'

theorem retO_of {val : Nat → Int} {F : List Fact} (h : Holds val F) {sla : Nat → Option Addr × Nat} {orc : Caller} {fuel : Nat} {f : FuncId} {args : List AV} {outs : List (Nat × List AV)} {sh : List Sh} {Y : List SX} (ho : @CallerOK (symsOf val F h sla) P orc)
    (hmix : P.follows .mixedOrders = true) (ha : wfVs (· < outs.length) args) (hpl : outs.all plainO = true) (hg : @gives (symsOf val F h sla) (@runO (symsOf val F h sla) P orc fuel f args outs) sh Y = true) :
    RetO P f args outs sla val (shV sh (Y.map (SX.eval val))) := by
  intro E w hout
  letI I := symsOf val F h sla
  have hout' : @OutOK (symsOf val F h sla) E w outs := by
    intro k o hk
    obtain ⟨h1, h2, h3⟩ := hout k o hk
    refine ⟨h1, fun hne i v hv => ?_, h3⟩
    rw [h2 hne i v hv, conc_val (I := nameS val sla) (J := symsOf val F h sla) rfl rfl]
  rw [concs_val (I := nameS val sla) (J := symsOf val F h sla) rfl rfl]
  unfold gives at hg
  split at hg
  · rename_i v S' hr
    obtain ⟨h1, h2⟩ := bAnd_true hg
    refine (runO_sound ho hmix hr ha hpl E w hout').mono fun e w' he => ?_
    obtain ⟨E', rfl, hb⟩ := he
    refine ⟨?_, hb⟩
    rw [sameT_sound (E := E') h2, shAV_conc]
    rfl
  · cases hg

/-- All of these calls: each of its own arguments. -/
noncomputable def givesO [Syms] (P : Program) (orc : Caller) (fuel : Nat) (outs : List (Nat × List AV)) (Y : List SX) : List (FuncId × List AV × List Sh) → Bool
  | [] => true
  | (f, args, sh) :: r => bAnd (gives (runO P orc fuel f args outs) sh Y) (givesO P orc fuel outs Y r)

theorem retO_all {val : Nat → Int} {F : List Fact} (h : Holds val F) {sla : Nat → Option Addr × Nat} {orc : Caller} {fuel : Nat} {outs : List (Nat × List AV)} {Y : List SX} (ho : @CallerOK (symsOf val F h sla) P orc)
    (hmix : P.follows .mixedOrders = true) (hpl : outs.all plainO = true) : ∀ (l : List (FuncId × List AV × List Sh)), (∀ x ∈ l, wfVs (· < outs.length) x.2.1) → @givesO (symsOf val F h sla) P orc fuel outs Y l = true →
    ∀ x ∈ l, RetO P x.1 x.2.1 outs sla val (shV x.2.2 (Y.map (SX.eval val))) := by
  intro l
  induction l with
  | nil => intro _ _ x hx; cases hx
  | cons y l ih =>
    intro hw hg x hx
    have hg' : bAnd (@gives (symsOf val F h sla) (@runO (symsOf val F h sla) P orc fuel y.1 y.2.1 outs) y.2.2 Y) (@givesO (symsOf val F h sla) P orc fuel outs Y l) = true := hg
    rcases List.mem_cons.1 hx with rfl | hx
    · exact retO_of h ho hmix (hw _ (by simp)) hpl (bAnd_true hg').1
    · exact ih (fun z hz => hw z (by simp [hz])) (bAnd_true hg').2 x hx

/-- Are the blocks that lay there before still known? -/
noncomputable def outsAt (S : AS) : Nat → List (Nat × List AV) → Bool
  | _, [] => true
  | k, o :: r => match blkOf S.hp k with
    | some B => bAnd (!isOwn B) (match rowCh (some o.2), Nat.beq o.1 0 with
      | some (ki, k0, n), true => (match rowOf B with
        | some (ki', k0', n') => bAnd (bAnd (kEq ki ki') (bAnd (Nat.beq k0 k0') (sxEq n n'))) (outsAt S (k + 1) r)
        | none => false)
      | _, _ => match readCells B 0 o.2.length with
        | some l => bAnd (bAnd (avEqs l o.2) (!Nat.beq o.1 0)) (outsAt S (k + 1) r)
        | none => false)
    | none => false

theorem outsAt_sound [Syms] {E : Env} {A : Nat → Prop} {S : AS} {w : World} (hH : HRel E A (blkOf S.hp) w) : ∀ (l : List (Nat × List AV)) (k : Nat), outsAt S k l = true → ∀ (i : Nat) (o : Nat × List AV), l[i]? = some o →
    E.ρ (k + i) < w.heap.size ∧ (o.1 ≠ 0 → ∀ (j : Nat) (v : AV), o.2[j]? = some v → w.cell? ⟨E.ρ (k + i), E.κ (k + i) + j, none⟩ = some (conc E v)) ∧ ∀ ki k0 n, o = (0, [.row ki k0 n]) → RowOK E w (k + i) ki k0 n := by
  intro l
  induction l with
  | nil => intro k _ i o hi; simp at hi
  | cons x r ih =>
    intro k h i o hi
    unfold outsAt at h
    split at h
    · rename_i B hB
      obtain ⟨h1, h2⟩ := bAnd_true h
      split at h2
      · rename_i ki k0 n hx1 hx2
        split at h2
        · rename_i ki' k0' n' hrow
          obtain ⟨h3, h4⟩ := bAnd_true h2
          obtain ⟨h3, h5⟩ := bAnd_true h3
          obtain ⟨h5, h6⟩ := bAnd_true h5
          obtain rfl := kEq_sound h3
          obtain rfl : k0 = k0' := Nat.eq_of_beq_eq_true h5
          obtain rfl := sxEq_sound _ _ h6
          cases i with
          | zero =>
            simp only [List.getElem?_cons_zero, Option.some.injEq] at hi
            subst hi
            refine ⟨(hH.blk k B hB).lt, fun hne => absurd (Nat.eq_of_beq_eq_true hx2) hne, fun ki' k0' n' he => ?_⟩
            have e2 := rowCh_spec hx1
            rw [he] at e2
            simp only [List.cons.injEq, AV.row.injEq, and_true] at e2
            obtain ⟨rfl, rfl, rfl⟩ := e2
            exact (hH.blk k B hB).row _ _ _ hrow
          | succ i =>
            simp only [List.getElem?_cons_succ] at hi
            have := ih (k + 1) h4 i o hi
            rw [show k + 1 + i = k + (i + 1) by omega] at this
            exact this
        · cases h2
      · split at h2
        · rename_i l' hl
          obtain ⟨h3, h4⟩ := bAnd_true h2
          obtain ⟨h3, h5⟩ := bAnd_true h3
          cases i with
          | zero =>
            simp only [List.getElem?_cons_zero, Option.some.injEq] at hi
            subst hi
            refine ⟨(hH.blk k B hB).lt, fun _ j v hv => ?_, fun ki k0 n he => by rw [he] at h5; simp at h5⟩
            have hro : B.elem = roT := not_own (by simpa using h1)
            obtain ⟨q1, _, q3⟩ := hH.cellsRo hB hro hl
            have := avEqs_sound _ _ h3
            subst this
            have := q3 j (conc E v) (by rw [concs_eq, List.getElem?_map, hv]; rfl)
            rw [add_lit] at this
            simpa using this
          | succ i =>
            simp only [List.getElem?_cons_succ] at hi
            have := ih (k + 1) h4 i o hi
            rw [show k + 1 + i = k + (i + 1) by omega] at this
            exact this
        · cases h2
    · cases h

/-- Calls of a table, with what was handed in. -/
noncomputable def tabOO (outs : List (Nat × List AV)) (l : List (FuncId × List AV × AV)) : Caller := fun f args S =>
  match l.find? (fun x => bAnd (Nat.beq x.1 f) (avEqs x.2.1 args)) with
  | some x => match outsAt S 0 outs with
    | true => some (x.2.2, S)
    | false => none
  | none => none

/-- The calls of such a table are so. -/
def TabOKO (P : Program) (val : Nat → Int) (sla : Nat → Option Addr × Nat) (outs : List (Nat × List AV)) (tab : List (FuncId × List AV × AV)) : Prop :=
  ∀ x ∈ tab, RetO P x.1 x.2.1 outs sla val (@conc (nameS val sla) E0 x.2.2)

theorem tabOO_sound {val : Nat → Int} {F : List Fact} (h : Holds val F) {sla : Nat → Option Addr × Nat} {outs : List (Nat × List AV)} {tab : List (FuncId × List AV × AV)} (hb : tab.all (fun x => bodyOK P x.1) = true) (hp : tab.all (fun x => plain x.2.2) = true)
    (ht : TabOKO P val sla outs tab) : @CallerOK (symsOf val F h sla) P (tabOO outs tab) := by
  letI I := symsOf val F h sla
  refine CallerOK.of ?_
  intro f args S v S' hc
  unfold tabOO at hc
  split at hc
  · rename_i x hx
    split at hc
    · rename_i hout
      cases hc
      have h1 := List.mem_of_find?_eq_some hx
      have h23 := List.find?_some hx
      obtain ⟨h2, h3⟩ := bAnd_true (a := Nat.beq x.1 f) (b := avEqs x.2.1 args) h23
      obtain rfl : x.1 = f := Nat.eq_of_beq_eq_true h2
      obtain rfl := avEqs_sound _ _ h3
      have h5 := List.all_eq_true.1 hp x h1
      refine ⟨bodyOK_spec (List.all_eq_true.1 hb x h1), Nat.le_refl _, fun b _ hn => hn, fun E A w hA hH _ => ?_⟩
      have hO : @OutOK (nameS val sla) E w outs := by
        intro k o hk
        have := outsAt_sound hH outs 0 hout k o hk
        simp only [Nat.zero_add] at this
        refine ⟨this.1, fun hne i u hu => ?_, this.2.2⟩
        rw [this.2.1 hne i u hu, conc_val (I := symsOf val F h sla) (J := nameS val sla) rfl rfl]
      have h6 := ht x h1 E w hO
      rw [concs_val (I := nameS val sla) (J := symsOf val F h sla) rfl rfl, conc_val (I := nameS val sla) (J := symsOf val F h sla) rfl rfl, plain_conc (E := E0) (E' := E) _ h5] at h6
      exact h6.mono fun e w' he => ⟨E, he.1, gives_below hH (plain_wf _ h5) he.2⟩
    · cases hc
  · cases hc

/-- On a way, by both kinds of tables. -/
theorem leafOTT {val : Nat → Int} {F : List Fact} (h : Holds val F) {sla : Nat → Option Addr × Nat} {orc : ∀ [Syms], Caller} {fuel : Nat} {f : FuncId} {args : List AV} {outs : List (Nat × List AV)} {tab tab' : List (FuncId × List AV × AV)} (ho : ∀ [Syms], CallerOK P orc)
    (hmix : P.follows .mixedOrders = true) (ha : wfVs (· < outs.length) args) (hpl : outs.all plainO = true) (hb : tab.all (fun x => bodyOK P x.1) = true) (hp : tab.all (fun x => plain x.2.2 && plains x.2.1) = true) (ht : TabOK P val sla tab)
    (hb' : tab'.all (fun x => bodyOK P x.1) = true) (hp' : tab'.all (fun x => plain x.2.2) = true) (ht' : TabOKO P val sla outs tab')
    (hg : saysTrue (@runO (symsOf val F h sla) P (orElse (@orc (symsOf val F h sla)) (orElse (tabO tab) (tabOO outs tab'))) fuel f args outs) = true) : LawO P f args outs sla val :=
  lawO_of h (@orElse_sound P (symsOf val F h sla) _ _ (@ho (symsOf val F h sla)) (@orElse_sound P (symsOf val F h sla) _ _ (tabOK_sound h hb hp ht) (tabOO_sound h hb' hp' ht'))) hmix ha hpl hg

end
theorem wrapU (x : Int) : IntKind.u64.wrap x = x % 18446744073709551616 := by
  simp only [IntKind.wrap, IntKind.bits, IntKind.signed, Bool.false_and, Bool.false_eq_true, if_false]; rfl

theorem wrapI (x : Int) : IntKind.i64.wrap x = (x + 9223372036854775808) % 18446744073709551616 - 9223372036854775808 := by
  simp only [IntKind.wrap, IntKind.bits, IntKind.signed, Bool.true_and, decide_eq_true_eq, ge_iff_le]
  have e1 : ((2 : Int) ^ 64) = 18446744073709551616 := by decide
  have e2 : ((2 : Int) ^ (64 - 1)) = 9223372036854775808 := by decide
  rw [e1, e2]
  split <;> omega

theorem fdivP (x : Int) (n : Nat) : x.fdiv (2 ^ n) = x / 2 ^ n := Int.fdiv_eq_ediv_of_nonneg _ (by exact_mod_cast Nat.zero_le _)

theorem tmodP (x n : Int) : x.tmod n = if 0 ≤ x then x % n else -((-x) % n) := by
  split
  · exact Int.tmod_eq_emod_of_nonneg ‹_›
  · have : x = -(-x) := by omega
    rw [this, Int.neg_tmod, Int.tmod_eq_emod_of_nonneg (by omega)]
    simp

/-! Calls of a slice of bytes that are known by a table: of which bytes, of which other arguments. -/

/-- A slice of these numbers. -/
def SliceOf (w : World) (k : IntKind) (v : Value) (zs : List Int) : Prop :=
  (zs = [] ∧ ∃ oa cap, v = .slice oa 0 cap) ∨
  ∃ b off cap : Nat, 0 < zs.length ∧ v = .slice (some ⟨b, off, none⟩) zs.length cap ∧ zs.length ≤ cap ∧ b < w.heap.size ∧
    ∀ (i : Nat) (n : Int), zs[i]? = some n → w.cell? ⟨b, off + i, none⟩ = some (.int k n)

noncomputable def cap1 (b : Bool) (len : Nat) (r : Option (List SX)) : Option (List SX) :=
  Bool.rec (motive := fun _ => Option (List SX)) none (Nat.rec (motive := fun _ => Option (List SX)) (some []) (fun _ _ => r) len) b

/-- The bytes of a slice. -/
noncomputable def slCells [Syms] (S : AS) : AV → Option (List SX)
  | .v (.slice none 0 0) => some []
  | .osl k => match Syms.num (.a k) with
    | some (.ofNat 0) => some []
    | _ => none
  | .sl b off len cap => cap1 (Nat.ble len cap) len (bytesB true (blkOf S.hp) b off len)
  | .os b off len kc d => cap1 (isTrue (Syms.dec (.le (.c (Int.ofNat (Nat.add len d))) (.a kc)))) len (bytesB false (blkOf S.hp) b off len)
  | .slu b len => match blkOf S.hp b with
    | some B => cap1 (bAnd B.grown (bAnd (Nat.beq B.s 1) (Nat.ble len B.n))) len (bytesB true (blkOf S.hp) b 0 len)
    | none => none
  | _ => none

theorem u8s_length : ∀ (l : List AV) (xs : List SX), u8s l = some xs → xs.length = l.length := by
  intro l
  induction l with
  | nil => intro xs h; cases h; rfl
  | cons x r ih =>
    intro xs h
    unfold u8s at h
    split at h
    · split at h
      · split at h
        · rename_i l' hl
          cases h
          simp [ih _ hl]
        · cases h
      · cases h
    · cases h

section
variable {P : Program} {E : Env} {A : Nat → Prop} {H : Nat → Option Blk} {w : World}

theorem bytesB_cells [Syms] (hH : HRel E A H w) {own : Bool} {b off len : Nat} {xs : List SX} (h : bytesB own H b off len = some xs) :
    E.ρ b < w.heap.size ∧ xs.length = len ∧ ∀ (i : Nat) (x : SX), xs[i]? = some x → w.cell? ⟨E.ρ b, (if own = true then 0 else E.κ b) + off + i, none⟩ = some (.int .u8 (x.eval Syms.val)) := by
  unfold bytesB at h
  split at h
  · rename_i B hB
    split at h
    · rename_i ho
      have ho : isOwn B = own := by simpa using ho
      split at h
      · rename_i l hl
        have hc := u8s_conc (E := E) l xs h
        have hl2 := u8s_length l xs h
        have key : l.length = len ∧ ∀ j u, (concs E l)[j]? = some u → w.cell? ((⟨E.ρ b, (if own = true then 0 else E.κ b) + off, none⟩ : Addr).add j) = some u := by
          cases own with
          | true =>
            obtain ⟨h1, _, h3⟩ := hH.cells hB (isOwn_iff.1 ho) hl
            refine ⟨h1, fun j u hu => ?_⟩
            have := h3 j u hu
            simpa using this
          | false =>
            have hro : B.elem = roT := by
              rcases Nat.decEq B.elem roT with hn | he
              · rw [isOwn_iff.2 hn] at ho; cases ho
              · exact he
            obtain ⟨h1, _, h3⟩ := hH.cellsRo hB hro hl
            refine ⟨h1, fun j u hu => ?_⟩
            have := h3 j u hu
            simpa using this
        refine ⟨(hH.blk b B hB).lt, by rw [hl2]; exact key.1, fun i x hx => ?_⟩
        have := key.2 i (.int .u8 (x.eval Syms.val)) (by rw [hc, List.getElem?_map, List.getElem?_map, hx]; rfl)
        rw [add_lit] at this
        exact this
      · cases h
    · cases h
  · cases h

theorem cap1_some {b : Bool} {len : Nat} {r : Option (List SX)} {xs : List SX} (h : cap1 b len r = some xs) : b = true ∧ ((len = 0 ∧ xs = []) ∨ (0 < len ∧ r = some xs)) := by
  cases b with
  | false => cases h
  | true =>
    refine ⟨rfl, ?_⟩
    cases len with
    | zero => cases h; exact .inl ⟨rfl, rfl⟩
    | succ n => exact .inr ⟨by omega, h⟩

theorem slCells_sound [Syms] {S : AS} (hH : HRel E A (blkOf S.hp) w) {v : AV} {xs : List SX} (h : slCells S v = some xs) : SliceOf w .u8 (conc E v) (xs.map (SX.eval Syms.val)) := by
  have fin : ∀ {own : Bool} {b off len cap : Nat}, bytesB own (blkOf S.hp) b off len = some xs → 0 < len → len ≤ cap →
      SliceOf w .u8 (.slice (some ⟨E.ρ b, (if own = true then 0 else E.κ b) + off, none⟩) len cap) (xs.map (SX.eval Syms.val)) := by
    intro own b off len cap hb h0 hc
    obtain ⟨h1, h2, h3⟩ := bytesB_cells hH hb
    refine .inr ⟨E.ρ b, (if own = true then 0 else E.κ b) + off, cap, by simp; omega, by simp [h2], by simp; omega, h1, fun i n hn => ?_⟩
    rw [List.getElem?_map] at hn
    cases hx : xs[i]? with
    | none => rw [hx] at hn; cases hn
    | some x =>
      rw [hx] at hn
      cases hn
      exact h3 i x hx
  unfold slCells at h
  split at h
  · cases h; exact .inl ⟨rfl, none, 0, rfl⟩
  · rename_i k
    split at h
    · rename_i hn
      cases h
      have := Syms.numOK _ _ hn
      simp only [SX.eval] at this
      exact .inl ⟨rfl, (Syms.sla k).1, (Syms.sla k).2, by simp [conc, this]⟩
    · cases h
  · rename_i b off len cap
    obtain ⟨h1, h2⟩ := cap1_some h
    rcases h2 with ⟨rfl, rfl⟩ | ⟨h0, hb⟩
    · exact .inl ⟨rfl, _, _, rfl⟩
    · have := fin hb h0 (Nat.le_of_ble_eq_true h1)
      simpa [conc] using this
  · rename_i b off len kc d
    obtain ⟨h1, h2⟩ := cap1_some h
    have hd := Syms.decOK _ _ (isTrue_iff h1)
    simp only [SB.eval, SX.eval] at hd
    have hd : ((len + d : Nat) : Int) ≤ Syms.val kc := of_decide_eq_true hd
    rcases h2 with ⟨rfl, rfl⟩ | ⟨h0, hb⟩
    · exact .inl ⟨rfl, _, _, rfl⟩
    · have := fin (cap := (Syms.val kc).toNat - d) hb h0 (by omega)
      simpa [conc] using this
  · rename_i b len
    split at h
    · rename_i B hB
      obtain ⟨h1, h2⟩ := cap1_some h
      obtain ⟨g1, g2⟩ := bAnd_true h1
      obtain ⟨g2, g3⟩ := bAnd_true g2
      rcases h2 with ⟨rfl, rfl⟩ | ⟨h0, hb⟩
      · exact .inl ⟨rfl, _, _, rfl⟩
      · obtain ⟨c, k1, k2, k3⟩ := (hH.blk b B hB).own ((hH.blk b B hB).grown g1)
        obtain ⟨k4, _, k5⟩ := k3 g1
        have hs : B.s = 1 := Nat.eq_of_beq_eq_true g2
        have := Nat.le_of_ble_eq_true g3
        rw [hs, Nat.mul_one] at k4
        have := fin (cap := E.κ b) hb h0 (by omega)
        simpa [conc] using this
    · cases h
  · cases h

noncomputable def cellsEq (zs : List SX) : Option (List SX) → Bool
  | some xs => sxsEq xs zs
  | none => false

/-- Calls of a table: the function, the bytes of the slice that is its first argument, its other arguments, what it gives. -/
noncomputable def slTab [Syms] (l : List (FuncId × List SX × List AV × AV)) : Caller := fun f args S =>
  match args with
  | s :: rest => match l.find? (fun x => bAnd (Nat.beq x.1 f) (bAnd (avEqs x.2.2.1 rest) (cellsEq x.2.1 (slCells S s)))) with
    | some x => some (x.2.2.2, S)
    | none => none
  | [] => none

/-- The calls of such a table are so. -/
def SlTabOK (P : Program) (val : Nat → Int) (sla : Nat → Option Addr × Nat) (l : List (FuncId × List SX × List AV × AV)) : Prop :=
  ∀ x ∈ l, ∀ (w : World) (v : Value), SliceOf w .u8 v (x.2.1.map (SX.eval val)) → Calls P x.1 (v :: @concs (nameS val sla) E0 x.2.2.1).toArray w fun e w' => e = .returned (@conc (nameS val sla) E0 x.2.2.2) ∧ RowKit.Below w.heap.size w w'

theorem slTab_sound {val : Nat → Int} {F : List Fact} (h : Holds val F) {sla : Nat → Option Addr × Nat} {l : List (FuncId × List SX × List AV × AV)} (hf : l.all (fun x => bodyOK P x.1) = true) (hp : l.all (fun x => plain x.2.2.2 && plains x.2.2.1) = true) (ht : SlTabOK P val sla l) :
    @CallerOK (symsOf val F h sla) P (@slTab (symsOf val F h sla) l) := by
  letI := symsOf val F h sla
  refine CallerOK.of ?_
  intro f args S v S' hc
  unfold slTab at hc
  split at hc
  · rename_i s rest
    split at hc
    · rename_i x hx
      cases hc
      have h1 := List.mem_of_find?_eq_some hx
      have h23 := List.find?_some hx
      obtain ⟨h2, h3⟩ := bAnd_true (a := Nat.beq x.1 f) h23
      obtain ⟨h3, h4⟩ := bAnd_true h3
      obtain rfl : x.1 = f := Nat.eq_of_beq_eq_true h2
      obtain rfl := avEqs_sound _ _ h3
      have h5 := List.all_eq_true.1 hf x h1
      have h6 := List.all_eq_true.1 hp x h1
      simp only [Bool.and_eq_true] at h6
      refine ⟨bodyOK_spec h5, Nat.le_refl _, fun b _ hn => hn, fun E A w hA hH _ => ?_⟩
      cases hcl : slCells S s with
      | none => rw [hcl] at h4; cases h4
      | some xs =>
        rw [hcl] at h4
        have := sxsEq_sound _ _ (h4 : sxsEq xs x.2.1 = true)
        subst this
        have h7 := ht x h1 w (conc E s) (slCells_sound hH hcl)
        rw [concs_val (I := nameS val sla) (J := symsOf val F h sla) rfl rfl, conc_val (I := nameS val sla) (J := symsOf val F h sla) rfl rfl, plains_conc (E := E0) (E' := E) _ h6.2, plain_conc (E := E0) (E' := E) _ h6.1] at h7
        exact h7.mono fun e w' he => ⟨E, he.1, gives_below hH (plain_wf _ h6.1) he.2⟩
    · cases hc
  · cases hc

/-- On a way, by all kinds of tables. -/
theorem leafOS {val : Nat → Int} {F : List Fact} (h : Holds val F) {sla : Nat → Option Addr × Nat} {orc : ∀ [Syms], Caller} {fuel : Nat} {f : FuncId} {args : List AV} {outs : List (Nat × List AV)} {tab : List (FuncId × List AV × AV)} {stab : List (FuncId × List SX × List AV × AV)} (ho : ∀ [Syms], CallerOK P orc)
    (hmix : P.follows .mixedOrders = true) (ha : wfVs (· < outs.length) args) (hpl : outs.all plainO = true) (hb : tab.all (fun x => bodyOK P x.1) = true) (hp : tab.all (fun x => plain x.2.2 && plains x.2.1) = true) (ht : TabOK P val sla tab)
    (hb' : stab.all (fun x => bodyOK P x.1) = true) (hp' : stab.all (fun x => plain x.2.2.2 && plains x.2.2.1) = true) (ht' : SlTabOK P val sla stab)
    (hg : saysTrue (@runO (symsOf val F h sla) P (orElse (@orc (symsOf val F h sla)) (orElse (tabO tab) (@slTab (symsOf val F h sla) stab))) fuel f args outs) = true) : LawO P f args outs sla val :=
  lawO_of h (@orElse_sound P (symsOf val F h sla) _ _ (@ho (symsOf val F h sla)) (@orElse_sound P (symsOf val F h sla) _ _ (tabOK_sound h hb hp ht) (slTab_sound h hb' hp' ht'))) hmix ha hpl hg

end

end Go.Sim
