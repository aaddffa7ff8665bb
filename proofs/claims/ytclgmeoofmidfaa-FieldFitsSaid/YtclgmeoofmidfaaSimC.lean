/-
  Slices that are handed in.
-/
import Derived.Test.YtclgmeoofmidfaaSimB
import Derived.ProofKit
namespace Go.Sim

/-! A slice of ints that was handed in: empty, or with its numbers. -/
open Go.ChangeShapes Go.WideShapes Go.ChangeAt Go.RowKit

/-- A slice of ints, as it lies in memory. -/
def SliceIn (w : World) (k : IntKind) (v : Value) : Prop :=
  (∃ oa cap, v = .slice oa 0 cap) ∨
  ∃ (b off cap : Nat) (zs : List Int), 0 < zs.length ∧ v = .slice (some ⟨b, off, none⟩) zs.length cap ∧ zs.length ≤ cap ∧ b < w.heap.size ∧
    (∀ (i : Nat) (n : Int), zs[i]? = some n → w.cell? ⟨b, off + i, none⟩ = some (.int k n)) ∧ ∀ n ∈ zs, (Lit.int k n).wf = true

theorem cell_addr {w : World} {a : Addr} {v : Value} (h : w.cell? a = some v) : ∃ b off, a = ⟨b, off, none⟩ ∧ b < w.heap.size := by
  obtain ⟨b, off, s⟩ := a
  cases s with
  | none =>
    refine ⟨b, off, rfl, ?_⟩
    rcases Nat.lt_or_ge b w.heap.size with hb | hb
    · exact hb
    · exfalso
      simp [World.cell?, Array.getElem?_eq_none hb] at h
  | some s =>
    exfalso
    simp only [World.cell?] at h
    split at h <;> simp at h

theorem slice_in {H : Type} {enc : TypeId × Value → H} {P : Program} {w : World} {base : Nat} {spare : Nat → Bool} {held : Bool} {t e : TypeId} {k : IntKind} {fuel : Nat} {v : Value} {x : DataW H × List MemPlace}
    (ht : P.underlying t = some (.slice e)) (he : P.underlying e = some (.int k)) (hc : P.cellsOf e = 1) (h : DataW.trod enc P w base spare held fuel t [v] = some x) : SliceIn w k v := by
  rcases open_ints ht he hc h with ⟨hcs, _⟩ | ⟨a, len, cap, zs, hcs, _, hl, _, hz, _, hcell, hwf⟩
  · left
    simp only [List.cons.injEq, and_true] at hcs
    exact ⟨none, 0, hcs⟩
  · simp only [List.cons.injEq, and_true] at hcs
    subst hcs
    by_cases h0 : len = 0
    · subst h0; exact .inl ⟨some a, cap, rfl⟩
    · have hzl : len ≤ zs.length := by rw [hz]; split <;> omega
      have hc0 := hcell 0 (by omega)
      have e0 : a.add 0 = a := by simp [Addr.add]
      rw [e0] at hc0
      obtain ⟨b, off, rfl, hb⟩ := cell_addr hc0
      refine .inr ⟨b, off, cap, zs.take len, by rw [List.length_take]; omega, by rw [List.length_take, Nat.min_eq_left hzl], by rw [List.length_take]; omega, hb, fun i n hn => ?_, fun n hn => hwf n (List.mem_of_mem_take hn)⟩
      rw [List.getElem?_take] at hn
      split at hn
      · have hi := (List.getElem?_eq_some_iff.1 hn).1
        have := hcell i hi
        rw [add_lit] at this
        rw [this, List.getD_eq_getElem?_getD, hn]
        rfl
      · cases hn

/-! Calls that are known by a table, of arguments that lead to what was handed in; what such calls give, as a row of numbers. -/

section
variable {P : Program}

/-- What a call gives, with what was handed in. -/
def RetO (P : Program) (f : FuncId) (args : List AV) (outs : List (Nat × List AV)) (sla : Nat → Option Addr × Nat) (val : Nat → Int) (v : Value) : Prop :=
  ∀ (E : Env) (w : World), @OutOK (nameS val sla) E w outs → Calls P f (@concs (nameS val sla) E args).toArray w fun e w' => e = .returned v ∧ RowKit.Below w.heap.size w w'

theorem retO_of {val : Nat → Int} {F : List Fact} (h : Holds val F) {sla : Nat → Option Addr × Nat} {orc : Caller} {fuel : Nat} {f : FuncId} {args : List AV} {outs : List (Nat × List AV)} {sh : List Sh} {Y : List SX} (ho : @CallerOK (symsOf val F h sla) P orc)
    (hmix : P.follows .mixedOrders = true) (ha : wfVs (· < outs.length) args) (hpl : outs.all (fun o => plains o.2) = true) (hg : @gives (symsOf val F h sla) (@runO (symsOf val F h sla) P orc fuel f args outs) sh Y = true) :
    RetO P f args outs sla val (shV sh (Y.map (SX.eval val))) := by
  intro E w hout
  letI I := symsOf val F h sla
  have hout' : @OutOK (symsOf val F h sla) E w outs := by
    intro k o hk
    obtain ⟨h1, h2⟩ := hout k o hk
    refine ⟨h1, fun i v hv => ?_⟩
    rw [h2 i v hv, conc_val (I := nameS val sla) (J := symsOf val F h sla) rfl rfl]
  rw [concs_val (I := nameS val sla) (J := symsOf val F h sla) rfl rfl]
  unfold gives at hg
  split at hg
  · rename_i v S' hr
    obtain ⟨h1, h2⟩ := bAnd_true hg
    refine (runO_sound ho hmix hr ha hpl E w hout').mono fun e w' he => ?_
    obtain ⟨E', rfl, hb⟩ := he
    refine ⟨?_, hb⟩
    rw [sameT_sound (E := E') h2, shAV_conc]
    rfl
  · cases hg

/-- All of these calls: each of its own arguments. -/
noncomputable def givesO [Syms] (P : Program) (orc : Caller) (fuel : Nat) (outs : List (Nat × List AV)) (Y : List SX) : List (FuncId × List AV × List Sh) → Bool
  | [] => true
  | (f, args, sh) :: r => bAnd (gives (runO P orc fuel f args outs) sh Y) (givesO P orc fuel outs Y r)

theorem retO_all {val : Nat → Int} {F : List Fact} (h : Holds val F) {sla : Nat → Option Addr × Nat} {orc : Caller} {fuel : Nat} {outs : List (Nat × List AV)} {Y : List SX} (ho : @CallerOK (symsOf val F h sla) P orc)
    (hmix : P.follows .mixedOrders = true) (hpl : outs.all (fun o => plains o.2) = true) : ∀ (l : List (FuncId × List AV × List Sh)), (∀ x ∈ l, wfVs (· < outs.length) x.2.1) → @givesO (symsOf val F h sla) P orc fuel outs Y l = true →
    ∀ x ∈ l, RetO P x.1 x.2.1 outs sla val (shV x.2.2 (Y.map (SX.eval val))) := by
  intro l
  induction l with
  | nil => intro _ _ x hx; cases hx
  | cons y l ih =>
    intro hw hg x hx
    have hg' : bAnd (@gives (symsOf val F h sla) (@runO (symsOf val F h sla) P orc fuel y.1 y.2.1 outs) y.2.2 Y) (@givesO (symsOf val F h sla) P orc fuel outs Y l) = true := hg
    rcases List.mem_cons.1 hx with rfl | hx
    · exact retO_of h ho hmix (hw _ (by simp)) hpl (bAnd_true hg').1
    · exact ih (fun z hz => hw z (by simp [hz])) (bAnd_true hg').2 x hx

/-- Are the blocks that lay there before still known? -/
noncomputable def outsAt (S : AS) : Nat → List (Nat × List AV) → Bool
  | _, [] => true
  | k, o :: r => match blkOf S.hp k with
    | some B => bAnd (!isOwn B) (match readCells B 0 o.2.length with
      | some l => bAnd (avEqs l o.2) (outsAt S (k + 1) r)
      | none => false)
    | none => false

theorem outsAt_sound [Syms] {E : Env} {A : Nat → Prop} {S : AS} {w : World} (hH : HRel E A (blkOf S.hp) w) : ∀ (l : List (Nat × List AV)) (k : Nat), outsAt S k l = true → ∀ (i : Nat) (o : Nat × List AV), l[i]? = some o →
    E.ρ (k + i) < w.heap.size ∧ ∀ (j : Nat) (v : AV), o.2[j]? = some v → w.cell? ⟨E.ρ (k + i), E.κ (k + i) + j, none⟩ = some (conc E v) := by
  intro l
  induction l with
  | nil => intro k _ i o hi; simp at hi
  | cons x r ih =>
    intro k h i o hi
    unfold outsAt at h
    split at h
    · rename_i B hB
      obtain ⟨h1, h2⟩ := bAnd_true h
      split at h2
      · rename_i l' hl
        obtain ⟨h3, h4⟩ := bAnd_true h2
        cases i with
        | zero =>
          simp only [List.getElem?_cons_zero, Option.some.injEq] at hi
          subst hi
          refine ⟨(hH.blk k B hB).lt, fun j v hv => ?_⟩
          have hro : B.elem = roT := not_own (by simpa using h1)
          obtain ⟨q1, _, q3⟩ := hH.cellsRo hB hro hl
          have := avEqs_sound _ _ h3
          subst this
          have := q3 j (conc E v) (by rw [concs_eq, List.getElem?_map, hv]; rfl)
          rw [add_lit] at this
          simpa using this
        | succ i =>
          simp only [List.getElem?_cons_succ] at hi
          have := ih (k + 1) h4 i o hi
          rw [show k + 1 + i = k + (i + 1) by omega] at this
          exact this
      · cases h2
    · cases h

/-- Calls of a table, with what was handed in. -/
noncomputable def tabOO (outs : List (Nat × List AV)) (l : List (FuncId × List AV × AV)) : Caller := fun f args S =>
  match l.find? (fun x => bAnd (Nat.beq x.1 f) (avEqs x.2.1 args)) with
  | some x => match outsAt S 0 outs with
    | true => some (x.2.2, S)
    | false => none
  | none => none

/-- The calls of such a table are so. -/
def TabOKO (P : Program) (val : Nat → Int) (sla : Nat → Option Addr × Nat) (outs : List (Nat × List AV)) (tab : List (FuncId × List AV × AV)) : Prop :=
  ∀ x ∈ tab, RetO P x.1 x.2.1 outs sla val (@conc (nameS val sla) E0 x.2.2)

theorem tabOO_sound {val : Nat → Int} {F : List Fact} (h : Holds val F) {sla : Nat → Option Addr × Nat} {outs : List (Nat × List AV)} {tab : List (FuncId × List AV × AV)} (hb : tab.all (fun x => bodyOK P x.1) = true) (hp : tab.all (fun x => plain x.2.2) = true)
    (ht : TabOKO P val sla outs tab) : @CallerOK (symsOf val F h sla) P (tabOO outs tab) := by
  letI I := symsOf val F h sla
  intro f args S v S' hc
  unfold tabOO at hc
  split at hc
  · rename_i x hx
    split at hc
    · rename_i hout
      cases hc
      have h1 := List.mem_of_find?_eq_some hx
      have h23 := List.find?_some hx
      obtain ⟨h2, h3⟩ := bAnd_true (a := Nat.beq x.1 f) (b := avEqs x.2.1 args) h23
      obtain rfl : x.1 = f := Nat.eq_of_beq_eq_true h2
      obtain rfl := avEqs_sound _ _ h3
      have h5 := List.all_eq_true.1 hp x h1
      refine ⟨bodyOK_spec (List.all_eq_true.1 hb x h1), Nat.le_refl _, fun b _ hn => hn, fun E A w hA hH _ => ?_⟩
      have hO : @OutOK (nameS val sla) E w outs := by
        intro k o hk
        have := outsAt_sound hH outs 0 hout k o hk
        simp only [Nat.zero_add] at this
        refine ⟨this.1, fun i u hu => ?_⟩
        rw [this.2 i u hu, conc_val (I := symsOf val F h sla) (J := nameS val sla) rfl rfl]
      have h6 := ht x h1 E w hO
      rw [concs_val (I := nameS val sla) (J := symsOf val F h sla) rfl rfl, conc_val (I := nameS val sla) (J := symsOf val F h sla) rfl rfl, plain_conc (E := E0) (E' := E) _ h5] at h6
      exact h6.mono fun e w' he => ⟨E, he.1, gives_below hH (plain_wf _ h5) he.2⟩
    · cases hc
  · cases hc

/-- On a way, by both kinds of tables. -/
theorem leafOTT {val : Nat → Int} {F : List Fact} (h : Holds val F) {sla : Nat → Option Addr × Nat} {orc : ∀ [Syms], Caller} {fuel : Nat} {f : FuncId} {args : List AV} {outs : List (Nat × List AV)} {tab tab' : List (FuncId × List AV × AV)} (ho : ∀ [Syms], CallerOK P orc)
    (hmix : P.follows .mixedOrders = true) (ha : wfVs (· < outs.length) args) (hpl : outs.all (fun o => plains o.2) = true) (hb : tab.all (fun x => bodyOK P x.1) = true) (hp : tab.all (fun x => plain x.2.2 && plains x.2.1) = true) (ht : TabOK P val sla tab)
    (hb' : tab'.all (fun x => bodyOK P x.1) = true) (hp' : tab'.all (fun x => plain x.2.2) = true) (ht' : TabOKO P val sla outs tab')
    (hg : saysTrue (@runO (symsOf val F h sla) P (orElse (@orc (symsOf val F h sla)) (orElse (tabO tab) (tabOO outs tab'))) fuel f args outs) = true) : LawO P f args outs sla val :=
  lawO_of h (@orElse_sound P (symsOf val F h sla) _ _ (@ho (symsOf val F h sla)) (@orElse_sound P (symsOf val F h sla) _ _ (tabOK_sound h hb hp ht) (tabOO_sound h hb' hp' ht'))) hmix ha hpl hg

end
theorem wrapU (x : Int) : IntKind.u64.wrap x = x % 18446744073709551616 := by
  simp only [IntKind.wrap, IntKind.bits, IntKind.signed, Bool.false_and, Bool.false_eq_true, if_false]; rfl

theorem wrapI (x : Int) : IntKind.i64.wrap x = (x + 9223372036854775808) % 18446744073709551616 - 9223372036854775808 := by
  simp only [IntKind.wrap, IntKind.bits, IntKind.signed, Bool.true_and, decide_eq_true_eq, ge_iff_le]
  have e1 : ((2 : Int) ^ 64) = 18446744073709551616 := by decide
  have e2 : ((2 : Int) ^ (64 - 1)) = 9223372036854775808 := by decide
  rw [e1, e2]
  split <;> omega

theorem fdivP (x : Int) (n : Nat) : x.fdiv (2 ^ n) = x / 2 ^ n := Int.fdiv_eq_ediv_of_nonneg _ (by exact_mod_cast Nat.zero_le _)

theorem tmodP (x n : Int) : x.tmod n = if 0 ≤ x then x % n else -((-x) % n) := by
  split
  · exact Int.tmod_eq_emod_of_nonneg ‹_›
  · have : x = -(-x) := by omega
    rw [this, Int.neg_tmod, Int.tmod_eq_emod_of_nonneg (by omega)]
    simp

end Go.Sim
