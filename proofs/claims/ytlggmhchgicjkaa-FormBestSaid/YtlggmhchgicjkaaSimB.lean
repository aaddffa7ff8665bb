/-
  Structs that are handed in; laws by known calls.
-/
import Derived.Test.YtlggmhchgicjkaaSim
import Derived.ProofKit
namespace Go.Sim

/-! A struct that was handed in, cell by cell: each cell reads by its own type. -/

mutual
theorem conc_val {I J : Syms} (h1 : I.val = J.val) (h2 : I.sla = J.sla) (E : Env) : ∀ x : AV, @conc I E x = @conc J E x
  | .v _ => by simp [conc]
  | .ptr _ _ => by simp [conc]
  | .sl _ _ _ _ => by simp [conc]
  | .slu _ _ => by simp [conc]
  | .fn _ a b => by simp only [conc, concs_val h1 h2 E a, concs_val h1 h2 E b]
  | .iface _ x => by simp only [conc, conc_val h1 h2 E x]
  | .agg xs => by simp only [conc, concs_val h1 h2 E xs]
  | .tup xs => by simp only [conc, concs_val h1 h2 E xs]
  | .sym _ => by simp only [conc, h1]
  | .sx _ _ => by simp only [conc, h1]
  | .sb _ => by simp only [conc, h1]
  | .osl _ => by simp only [conc, h1, h2]
  | .str _ => by simp only [conc, h1]
  | .op _ _ => by simp [conc]
  | .ox _ _ _ _ => by simp only [conc, h1]
  | .px _ _ _ _ => by simp only [conc, h1]
  | .yl _ => by simp only [conc]
  | .lp _ _ _ _ _ _ _ => by simp only [conc]
  | .ps _ _ _ _ _ => by simp only [conc, h1]
  | .pick l _ => by simp only [conc, h1, concs_val h1 h2 E l]
  | .os _ _ _ _ _ => by simp only [conc, h1]
  | .ry _ _ _ _ => by simp only [conc, h1, h2]
  | .rp _ _ => by simp only [conc, h1]
  | .lsl _ _ => by simp only [conc, h1]
  | .row _ _ _ => by simp only [conc]
theorem concs_val {I J : Syms} (h1 : I.val = J.val) (h2 : I.sla = J.sla) (E : Env) : ∀ l : List AV, @concs I E l = @concs J E l
  | [] => by simp [concs]
  | x :: r => by simp only [concs, conc_val h1 h2 E x, concs_val h1 h2 E r]
end

/-- Names of which nothing is known. -/
noncomputable abbrev nameS (val : Nat → Int) (sla : Nat → Option Addr × Nat) : Syms := symsOf val [] holds_nil sla

/-- The calls of a table are so. -/
def TabOK (P : Program) (val : Nat → Int) (sla : Nat → Option Addr × Nat) (tab : List (FuncId × List AV × AV)) : Prop := ∀ x ∈ tab, Ret P x.1 (@concs (nameS val sla) E0 x.2.1) (@conc (nameS val sla) E0 x.2.2)

theorem tabOK_sound {P : Program} {val : Nat → Int} {F : List Fact} (h : Holds val F) {sla : Nat → Option Addr × Nat} {tab : List (FuncId × List AV × AV)} (hb : tab.all (fun x => bodyOK P x.1) = true) (hp : tab.all (fun x => plain x.2.2 && plains x.2.1) = true) (ht : TabOK P val sla tab) :
    @CallerOK (symsOf val F h sla) P (tabO tab) :=
  letI := symsOf val F h sla
  tabO_sound hb hp fun x hx => by
    have := ht x hx
    rw [concs_val (I := nameS val sla) (J := symsOf val F h sla) rfl rfl, conc_val (I := nameS val sla) (J := symsOf val F h sla) rfl rfl] at this
    exact this

/-- On a way a law says true, by known calls. -/
theorem leafTab {P : Program} {val : Nat → Int} {F : List Fact} (h : Holds val F) {sla : Nat → Option Addr × Nat} {orc : ∀ [Syms], Caller} {fuel : Nat} {f : FuncId} {args : List AV} {tab : List (FuncId × List AV × AV)} (ho : ∀ [Syms], CallerOK P orc)
    (hmix : P.follows .mixedOrders = true) (ha : plains args = true) (hb : tab.all (fun x => bodyOK P x.1) = true) (hp : tab.all (fun x => plain x.2.2 && plains x.2.1) = true) (ht : TabOK P val sla tab)
    (hg : saysTrue (@run (symsOf val F h sla) P (orElse (@orc (symsOf val F h sla)) (tabO tab)) fuel f args) = true) : Ret P f (@concs (symsOf val F h sla) E0 args) (.bool true) :=
  letI := symsOf val F h sla
  fun w => true_of (orElse_sound ho (tabOK_sound h hb hp ht)) hmix (fun _ => plains_wf args ha) hg w

/-- The types of a struct's cells, its fields one behind the other. -/
noncomputable def fieldsLeaves (P : Program) (lv : TypeId → Option (List TypeId)) : Nat → List Field → Option (List TypeId)
  | _, [] => some []
  | off, f :: r => match lv f.type with
    | some ts => match Nat.beq f.offset off && Nat.beq (P.cellsOf f.type) ts.length with
      | true => match fieldsLeaves P lv (off + ts.length) r with
        | some us => some (ts ++ us)
        | none => none
      | false => none
    | none => none

noncomputable def leaves (P : Program) : Nat → TypeId → Option (List TypeId)
  | 0, _ => none
  | n + 1, t => match P.underlying t with
    | some (.struct fs) => match fieldsLeaves P (leaves P n) 0 fs.toList with
      | some ts => match Nat.beq (P.cellsOf t) ts.length with
        | true => some ts
        | false => none
      | none => none
    | some (.array _ _) => none
    | some _ => some [t]
    | none => none

section
variable {H : Type} {enc : TypeId × Value → H} {P : Program} {w : World} {base : Nat} {spare : Nat → Bool} {held : Bool}

/-- Each cell reads by its type. -/
def CellsRead (enc : TypeId × Value → H) (P : Program) (w : World) (base : Nat) (spare : Nat → Bool) (held : Bool) (cs : List Value) (ts : List TypeId) : Prop :=
  cs.length = ts.length ∧ ∀ (i : Nat) (c : Value) (t : TypeId), cs[i]? = some c → ts[i]? = some t → ∃ fuel y, DataW.trod enc P w base spare held fuel t [c] = some y

theorem trod_one {fuel : Nat} {t : TypeId} {cs : List Value} {y : DataW H × List MemPlace} (h : DataW.trod enc P w base spare held (fuel + 1) t cs = some y) (h1 : ∀ fs, P.underlying t ≠ some (.struct fs)) (h2 : ∀ n e, P.underlying t ≠ some (.array n e)) :
    ∃ c, cs = [c] := by
  match cs with
  | [c] => exact ⟨c, rfl⟩
  | [] =>
    exfalso
    unfold DataW.trod at h
    split at h <;> first | (simp_all; done) | (rename_i hu; exact h1 _ hu) | (rename_i hu; exact h2 _ _ hu)
  | a :: b :: r =>
    exfalso
    unfold DataW.trod at h
    split at h <;> first | (simp_all; done) | (rename_i hu; exact h1 _ hu) | (rename_i hu; exact h2 _ _ hu)

theorem fields_read {lv : TypeId → Option (List TypeId)} {fuel : Nat} (ih : ∀ t cs y ts, DataW.trod enc P w base spare held fuel t cs = some y → lv t = some ts → CellsRead enc P w base spare held cs ts) (cs : List Value) :
    ∀ (fs : List Field) (off : Nat) (xs : List (DataW H × List MemPlace)) (ts : List TypeId), (fs.mapM fun f => DataW.trod enc P w base spare held fuel f.type ((cs.drop f.offset).take (P.cellsOf f.type))) = some xs →
      fieldsLeaves P lv off fs = some ts → off + ts.length ≤ cs.length → CellsRead enc P w base spare held ((cs.drop off).take ts.length) ts := by
  intro fs
  induction fs with
  | nil =>
    intro off xs ts _ hl _
    simp only [fieldsLeaves, Option.some.injEq] at hl
    subst hl
    exact ⟨by simp, fun i c t hc => by simp at hc⟩
  | cons f fs ihf =>
    intro off xs ts hm hl hlen
    simp only [List.mapM_cons] at hm
    unfold fieldsLeaves at hl
    split at hl
    · rename_i us hus
      split at hl
      · rename_i hb
        simp only [Bool.and_eq_true] at hb
        have hb1 : f.offset = off := Nat.eq_of_beq_eq_true hb.1
        have hb2 : P.cellsOf f.type = us.length := Nat.eq_of_beq_eq_true hb.2
        split at hl
        · rename_i vs hvs
          cases hl
          cases hx : DataW.trod enc P w base spare held fuel f.type ((cs.drop f.offset).take (P.cellsOf f.type)) with
          | none => rw [hx] at hm; simp at hm
          | some x =>
            rw [hx] at hm
            cases hr : (fs.mapM fun f => DataW.trod enc P w base spare held fuel f.type ((cs.drop f.offset).take (P.cellsOf f.type))) with
            | none => rw [hr] at hm; simp at hm
            | some xr =>
              rw [hb1, hb2] at hx
              obtain ⟨a1, a2⟩ := ih _ _ _ _ hx hus
              simp only [List.length_append] at hlen
              obtain ⟨b1, b2⟩ := ihf (off + us.length) xr vs hr hvs (by omega)
              refine ⟨by simp only [List.length_take, List.length_drop, List.length_append]; omega, fun i c t hc ht => ?_⟩
              have hci : (cs.drop off)[i]? = some c := by
                rw [List.getElem?_take] at hc
                split at hc
                · exact hc
                · cases hc
              by_cases hi : i < us.length
              · rw [List.getElem?_append_left hi] at ht
                exact a2 i c t (by rw [List.getElem?_take, if_pos hi]; exact hci) ht
              · rw [List.getElem?_append_right (by omega)] at ht
                have hi2 : i - us.length < vs.length := (List.getElem?_eq_some_iff.1 ht).1
                refine b2 (i - us.length) c t ?_ ht
                rw [List.getElem?_take, if_pos hi2]
                rw [List.getElem?_drop] at hci ⊢
                rw [← hci]
                congr 1
                omega
        · cases hl
      · cases hl
    · cases hl

theorem leaves_read : ∀ (n fuel : Nat) (t : TypeId) (cs : List Value) (y : DataW H × List MemPlace) (ts : List TypeId), DataW.trod enc P w base spare held fuel t cs = some y → leaves P n t = some ts →
    CellsRead enc P w base spare held cs ts := by
  intro n
  induction n with
  | zero => intro fuel t cs y ts _ hl; cases hl
  | succ n ih =>
    intro fuel t cs y ts h hl
    cases fuel with
    | zero => simp [DataW.trod] at h
    | succ fuel =>
      have h0 := h
      unfold leaves at hl
      split at hl
      · rename_i fs hu
        split at hl
        · rename_i us hus
          split at hl
          · rename_i hb
            cases hl
            have hb : P.cellsOf t = ts.length := Nat.eq_of_beq_eq_true hb
            have hs : (if cs.length = P.cellsOf t then (fs.toList.mapM fun f => DataW.trod enc P w base spare held fuel f.type ((cs.drop f.offset).take (P.cellsOf f.type))).map fun xs => ((DataW.agg (xs.map (·.1)), xs.flatMap (·.2)) : DataW H × List MemPlace) else none) = some y := by
              rw [← h]
              conv => rhs; unfold DataW.trod
              rw [hu]
            split at hs
            · rename_i hcl
              cases hm : (fs.toList.mapM fun f => DataW.trod enc P w base spare held fuel f.type ((cs.drop f.offset).take (P.cellsOf f.type))) with
              | none => rw [hm] at hs; cases hs
              | some xs =>
                have := fields_read (fun t cs y ts h hl => ih fuel t cs y ts h hl) cs fs.toList 0 xs ts hm hus (by omega)
                rw [List.drop_zero, List.take_of_length_le (by omega)] at this
                exact this
            · cases hs
          · cases hl
        · cases hl
      · cases hl
      · rename_i d h1 h2 hu
        cases hl
        obtain ⟨c, rfl⟩ := trod_one h0 (fun fs hf => h1 fs (by rw [hu] at hf; exact Option.some.inj hf)) (fun m e hf => h2 m e (by rw [hu] at hf; exact Option.some.inj hf))
        refine ⟨rfl, fun i c' t' hc ht => ?_⟩
        cases i with
        | zero =>
          simp only [List.getElem?_cons_zero, Option.some.injEq] at hc ht
          subst hc ht
          exact ⟨_, _, h0⟩
        | succ i => simp at hc
      · cases hl

/-- A cell of an int's type. -/
theorem cell_int {fuel : Nat} {t : TypeId} {k : IntKind} {c : Value} {y : DataW H × List MemPlace} (hu : P.underlying t = some (.int k)) (h : DataW.trod enc P w base spare held fuel t [c] = some y) : ∃ n, c = .int k n ∧ (Lit.int k n).wf = true := by
  cases fuel with
  | zero => simp [DataW.trod] at h
  | succ fuel =>
    unfold DataW.trod at h
    rw [hu] at h
    cases c <;> simp only [] at h <;> first | (cases h; done) | skip
    rename_i k' n
    split at h
    · rename_i hk; obtain ⟨rfl, hw⟩ := hk; exact ⟨n, rfl, hw⟩
    · cases h

/-- A struct of ints alone. -/
theorem ints_read {cs : List Value} : ∀ {ts : List TypeId}, CellsRead enc P w base spare held cs ts → (∀ t ∈ ts, P.underlying t = some (.int .i64)) →
    ∃ l : List Int, l.length = ts.length ∧ cs = l.map (fun n => Value.int .i64 n) ∧ ∀ n ∈ l, (Lit.int .i64 n).wf = true := by
  induction cs with
  | nil => intro ts h _; exact ⟨[], by have := h.1; simpa using this, rfl, fun n hn => by cases hn⟩
  | cons c cs ih =>
    intro ts h hts
    cases ts with
    | nil => have := h.1; simp at this
    | cons t ts =>
      obtain ⟨fuel, y, hy⟩ := h.2 0 c t rfl rfl
      obtain ⟨n, rfl, hn⟩ := cell_int (hts t (by simp)) hy
      obtain ⟨l, h1, h2, h3⟩ := ih (ts := ts) ⟨by have := h.1; simpa using this, fun i c' t' hc ht => h.2 (i + 1) c' t' (by simpa using hc) (by simpa using ht)⟩ (fun t ht => hts t (by simp [ht]))
      refine ⟨n :: l, by simp [h1], by simp [h2], fun m hm => ?_⟩
      rcases List.mem_cons.1 hm with rfl | hm
      · exact hn
      · exact h3 m hm

end

/-! Calls with slices that were handed in: their cells lie in blocks that are read alone. -/

/-- Blocks that lay there before, numbered from k on: of each, how many cells an element has, and its cells. -/
noncomputable def layO {β : Type} (l : List (Nat × List AV)) : Nat → Tr (Option Blk) → (Tr (Option Blk) → Option β) → Option β :=
  List.rec (motive := fun _ => Nat → Tr (Option Blk) → (Tr (Option Blk) → Option β) → Option β) (fun _ h κ => κ h)
    (fun o _ ih k h κ => match rowCh (some o.2), Nat.beq o.1 0 with
      | some (ki, k0, n), true => Tr.set deep h k (some (spBlk (.row ki k0 n))) fun h => ih (Nat.succ k) h κ
      | _, _ => fN (lenL o.2) fun n => fN o.1 fun s =>
        Bool.rec (motive := fun _ => Option β) none
          (layPieces false s (Nat.div n s) o.2 0 .nil fun ch => Tr.set deep h k (some ⟨n, roT, false, s, ch⟩) fun h => ih (Nat.succ k) h κ)
          (Nat.ble 1 s && Nat.beq (Nat.mod n s) 0)) l

theorem rowCh_spec {l : List AV} {ki : IntKind} {k0 : Nat} {n : SX} (h : rowCh (some l) = some (ki, k0, n)) : l = [.row ki k0 n] := by
  unfold rowCh at h
  split at h
  · rename_i hy; cases hy; cases h; rfl
  · cases h

/-- A call, with such blocks. -/
noncomputable def runO [Syms] (P : Program) (orc : Caller) (fuel : Nat) (f : FuncId) (args : List AV) (outs : List (Nat × List AV)) : Option (AV × AS) :=
  layO outs 0 .nil fun h => callA P (exec P orc fuel false) f args ⟨outs.length, h⟩

theorem layO_spec {β : Type} : ∀ (l : List (Nat × List AV)) (k : Nat) (h : Tr (Option Blk)) (κ : Tr (Option Blk) → Option β) (r : β), layO l k h κ = some r →
    ∃ h', κ h' = some r ∧ (∀ b, ¬ (k ≤ b ∧ b < k + l.length) → blkOf h' b = blkOf h b) ∧
      ∀ i o, l[i]? = some o → ∃ B, blkOf h' (k + i) = some B ∧ B.elem = roT ∧ B.grown = false ∧ spOf B = none ∧
        ((o.1 ≠ 0 ∧ B.n = o.2.length ∧ (∀ j, cellOf B j = o.2[j]?) ∧ rowOf B = none) ∨ ∃ ki k0 n, o = (0, [.row ki k0 n]) ∧ rowOf B = some (ki, k0, n)) := by
  intro l
  induction l with
  | nil => intro k h κ r hr; exact ⟨h, hr, fun b _ => rfl, fun i o hi => by simp at hi⟩
  | cons o l ih =>
    intro k h κ r hr
    have hr0 : (match rowCh (some o.2), Nat.beq o.1 0 with
      | some (ki, k0, n), true => Tr.set deep h k (some (spBlk (.row ki k0 n))) fun h => layO l (Nat.succ k) h κ
      | _, _ => fN (lenL o.2) fun n => fN o.1 fun s =>
        Bool.rec (motive := fun _ => Option β) none
          (layPieces false s (Nat.div n s) o.2 0 .nil fun ch => Tr.set deep h k (some ⟨n, roT, false, s, ch⟩) fun h => layO l (Nat.succ k) h κ)
          (Nat.ble 1 s && Nat.beq (Nat.mod n s) 0)) = some r := hr
    split at hr0
    · rename_i ki k0 n hrow h0
      obtain ⟨h2, h3, h4⟩ := Tr.set_spec _ _ _ _ _ _ hr0
      have hbk := blkOf_set h4
      obtain ⟨h', g1, g2, g3⟩ := ih (k + 1) h2 κ r h3
      refine ⟨h', g1, fun b hb => ?_, fun i o' hi => ?_⟩
      · rw [g2 b (by simp at hb ⊢; omega), hbk b, if_neg (by simp at hb; omega)]
      · cases i with
        | zero =>
          simp only [List.getElem?_cons_zero, Option.some.injEq] at hi
          subst hi
          refine ⟨spBlk (.row ki k0 n), ?_, rfl, rfl, rfl, .inr ⟨ki, k0, n, ?_, rfl⟩⟩
          · rw [Nat.add_zero, g2 _ (by omega), hbk, if_pos rfl]
          · obtain ⟨o1, o2⟩ := o
            have e1 : o1 = 0 := Nat.eq_of_beq_eq_true h0
            have e2 := rowCh_spec hrow
            simp only at e2
            rw [e1, e2]
        | succ i =>
          simp only [List.getElem?_cons_succ] at hi
          obtain ⟨B', q1, q2⟩ := g3 i o' hi
          exact ⟨B', by rw [show k + (i + 1) = k + 1 + i by omega]; exact q1, q2⟩
    rename_i hnr
    clear hnr
    have hr' := hr0
    simp only [fN_eq] at hr'
    have hmk : mkBlk o.2 0 false o.1 (fun B => Tr.set deep h k (some ⟨B.n, roT, false, B.s, B.ch⟩) fun h => layO l (Nat.succ k) h κ) = some r := by
      unfold mkBlk
      simp only [fN_eq]
      have e : (Nat.ble 1 o.1 && Nat.beq (Nat.mod (lenL o.2) o.1) 0 && !Nat.beq 0 roT) = (Nat.ble 1 o.1 && Nat.beq (Nat.mod (lenL o.2) o.1) 0) := by
        have : Nat.beq 0 roT = false := rfl
        rw [this]; simp
      rw [e]
      exact hr'
    obtain ⟨B, h1, b1, b2, b3, b4, b6, b5⟩ := mkBlk_spec _ _ _ _ _ _ hmk
    obtain ⟨h2, h3, h4⟩ := Tr.set_spec _ _ _ _ _ _ h1
    have hbk := blkOf_set h4
    obtain ⟨h', g1, g2, g3⟩ := ih (k + 1) h2 κ r h3
    refine ⟨h', g1, fun b hb => ?_, fun i o' hi => ?_⟩
    · rw [g2 b (by simp at hb ⊢; omega), hbk b, if_neg (by simp at hb; omega)]
    · cases i with
      | zero =>
        simp only [List.getElem?_cons_zero, Option.some.injEq] at hi
        subst hi
        have hs : Nat.beq B.s 0 = false := by
          cases hb : Nat.beq B.s 0 with
          | false => rfl
          | true => have := Nat.eq_of_beq_eq_true hb; rw [b4] at this; omega
        refine ⟨⟨B.n, roT, false, B.s, B.ch⟩, ?_, rfl, rfl, ?_, .inl ⟨by omega, b1, fun j => ?_, ?_⟩⟩
        · rw [Nat.add_zero, g2 _ (by omega), hbk, if_pos rfl]
        · show spIn roT B.s B.ch = none
          unfold spIn
          rw [hs, Bool.and_false]
        · rw [← b5 j]; rfl
        · show rowIn roT B.s B.ch = none
          unfold rowIn
          rw [hs, Bool.and_false]
      | succ i =>
        simp only [List.getElem?_cons_succ] at hi
        obtain ⟨B', q1, q2⟩ := g3 i o' hi
        exact ⟨B', by rw [show k + (i + 1) = k + 1 + i by omega]; exact q1, q2⟩

/-- What lay there before is as the list says. -/
def OutOK [Syms] (E : Env) (w : World) (outs : List (Nat × List AV)) : Prop :=
  ∀ (k : Nat) (o : Nat × List AV), outs[k]? = some o → E.ρ k < w.heap.size ∧ (o.1 ≠ 0 → ∀ (i : Nat) (v : AV), o.2[i]? = some v → w.cell? ⟨E.ρ k, E.κ k + i, none⟩ = some (conc E v)) ∧
    ∀ ki k0 n, o = (0, [.row ki k0 n]) → RowOK E w k ki k0 n

section
variable {P : Program}

/-- Cells without block numbers, or a row. -/
noncomputable def plainO (o : Nat × List AV) : Bool := match Nat.beq o.1 0 with | true => true | false => plains o.2

theorem runO_full [Syms] {orc : Caller} (ho : CallerOK P orc) (hmix : P.follows .mixedOrders = true) {fuel : Nat} {f : FuncId} {args : List AV} {outs : List (Nat × List AV)} {v : AV} {S' : AS} (h : runO P orc fuel f args outs = some (v, S'))
    (hargs : wfVs (· < outs.length) args) (hpl : outs.all plainO = true) (E : Env) (w : World) (hout : OutOK E w outs) :
    Calls P f (concs E args).toArray w fun e w' => ∃ E', e = .returned (conc E' v) ∧ HRel E' (ext (· < outs.length) outs.length S'.nx) (blkOf S'.hp) w' ∧ (∀ b B, blkOf S'.hp b = some B → B.elem ≠ roT → w.heap.size ≤ E'.ρ b) ∧ RowKit.Below w.heap.size w w' := by
  unfold runO at h
  obtain ⟨hp, h1, h2, h3⟩ := layO_spec _ _ _ _ _ h
  simp only [Nat.zero_add] at h2 h3
  obtain ⟨_, _, _, h4⟩ := callA_sound (exec_sound ho hmix fuel).1 f args ⟨outs.length, hp⟩ v S' h1
  have hblk : ∀ b B, blkOf hp b = some B → ∃ o, outs[b]? = some o ∧ B.elem = roT ∧ B.grown = false ∧ spOf B = none ∧
      ((o.1 ≠ 0 ∧ B.n = o.2.length ∧ (∀ j, cellOf B j = o.2[j]?) ∧ rowOf B = none) ∨ ∃ ki k0 n, o = (0, [.row ki k0 n]) ∧ rowOf B = some (ki, k0, n)) := by
    intro b B hb
    by_cases hr : b < outs.length
    · obtain ⟨o, ho'⟩ : ∃ o, outs[b]? = some o := ⟨_, List.getElem?_eq_getElem hr⟩
      obtain ⟨B', q1, q2⟩ := h3 b o ho'
      rw [hb] at q1
      cases q1
      exact ⟨o, ho', q2⟩
    · rw [h2 b (by omega)] at hb
      cases hb
  have hpl' : ∀ (k : Nat) (o : Nat × List AV), outs[k]? = some o → o.1 ≠ 0 → ∀ (i : Nat) (u : AV), o.2[i]? = some u → wfV (· < outs.length) u := by
    intro k o hk hne i u hu
    have := List.all_eq_true.1 hpl o (List.mem_of_getElem? hk)
    unfold plainO at this
    split at this
    · rename_i h0; exact absurd (Nat.eq_of_beq_eq_true h0) hne
    exact (wfVs_iff _ _).1 (plains_wf o.2 this) u (List.mem_of_getElem? hu)
  refine (h4 E (· < outs.length) w (fun b hb => hb) ⟨fun b B hb => ?_, fun b B hb => ?_, fun b B hb i u hu => ?_, fun b B hb y hy => ?_, fun b b' B B' y y' hb _ hy _ _ => ?_, fun b b' B B' hb hb' ho' _ => ?_⟩ hargs).mono fun e w' he => ?_
  · obtain ⟨o, ho', _⟩ := hblk b B hb
    exact (List.getElem?_eq_some_iff.1 ho').1
  · obtain ⟨o, ho', q2, q3, q5, q6⟩ := hblk b B hb
    obtain ⟨k1, k2, k3⟩ := hout b o ho'
    rcases q6 with ⟨q0, q1, q4, q7⟩ | ⟨ki, k0, n, q8, q9⟩
    · refine ⟨k1, fun hn => absurd q2 hn, fun _ => ⟨q3, fun i u hu => ?_⟩, fun y hy => absurd hy (by rw [q5]; simp), fun ki k0 n hr => (by rw [q7] at hr; cases hr), fun y hy => absurd q2 (catOf_own hy)⟩
      rw [q4 i] at hu
      exact ⟨by rw [q1]; exact (List.getElem?_eq_some_iff.1 hu).1, k2 q0 i u hu⟩
    · refine ⟨k1, fun hn => absurd q2 hn, fun _ => ⟨q3, fun i u hu => by rw [cellOf_row q9] at hu; cases hu⟩, fun y hy => absurd hy (by rw [q5]; simp), fun ki' k0' n' hr => ?_, fun y hy => absurd q2 (catOf_own hy)⟩
      rw [q9] at hr
      cases hr
      exact k3 ki k0 n q8
  · obtain ⟨o, ho', q2, q3, q5, q6⟩ := hblk b B hb
    rcases q6 with ⟨q0, q1, q4, q7⟩ | ⟨ki, k0, n, q8, q9⟩
    · rw [q4 i] at hu
      exact hpl' b o ho' q0 i u hu
    · rw [cellOf_row q9] at hu; cases hu
  · obtain ⟨_, _, _, _, q5, _⟩ := hblk b B hb
    rw [q5] at hy; cases hy
  · obtain ⟨_, _, _, _, q5, _⟩ := hblk b B hb
    rw [q5] at hy; cases hy
  · obtain ⟨_, _, q2, _⟩ := hblk b B hb
    obtain ⟨_, _, q2', _⟩ := hblk b' B' hb'
    rcases ho' with hc | hc
    · exact absurd q2 hc
    · exact absurd q2' hc
  · obtain ⟨E', rfl, g1, g2, g3, g4⟩ := he
    refine ⟨E', rfl, g3, fun b B hb hne => ?_, g4.os, g4.tape, g4.output, g4.size, fun k hk => g4.frame k hk fun b B hb hn => ?_⟩
    · rcases g4.fresh b B hb hne with ⟨b', B', hb', hn', _⟩ | hge
      · obtain ⟨_, _, q2, _⟩ := hblk b' B' hb'
        exact absurd q2 hn'
      · exact hge
    · obtain ⟨_, _, q2, _⟩ := hblk b B hb
      exact absurd q2 hn

theorem runO_sound [Syms] {orc : Caller} (ho : CallerOK P orc) (hmix : P.follows .mixedOrders = true) {fuel : Nat} {f : FuncId} {args : List AV} {outs : List (Nat × List AV)} {v : AV} {S' : AS} (h : runO P orc fuel f args outs = some (v, S'))
    (hargs : wfVs (· < outs.length) args) (hpl : outs.all plainO = true) (E : Env) (w : World) (hout : OutOK E w outs) :
    Calls P f (concs E args).toArray w fun e w' => ∃ E', e = .returned (conc E' v) ∧ RowKit.Below w.heap.size w w' := by
  refine (runO_full ho hmix h hargs hpl E w hout).mono fun e w' he => ?_
  obtain ⟨E', h1, _, _, h2⟩ := he
  exact ⟨E', h1, h2⟩

/-- A call that gives true, with what was handed in. -/
theorem true_ofO [Syms] {orc : Caller} (ho : CallerOK P orc) (hmix : P.follows .mixedOrders = true) {fuel : Nat} {f : FuncId} {args : List AV} {outs : List (Nat × List AV)} (h : saysTrue (runO P orc fuel f args outs) = true)
    (hargs : wfVs (· < outs.length) args) (hpl : outs.all plainO = true) (E : Env) (w : World) (hout : OutOK E w outs) :
    Calls P f (concs E args).toArray w fun e w' => e = .returned (.bool true) ∧ RowKit.Below w.heap.size w w' := by
  cases hr : runO P orc fuel f args outs with
  | none => rw [hr] at h; cases h
  | some r =>
    obtain ⟨v, S'⟩ := r
    rw [hr] at h
    have hv : v = .v (.bool true) := by
      unfold saysTrue at h
      split at h
      · rename_i b _ he; cases he; rw [h]
      · cases h
    subst hv
    refine (runO_sound ho hmix hr hargs hpl E w hout).mono fun e w' he => ?_
    obtain ⟨E', rfl, hb⟩ := he
    exact ⟨by simp [conc], hb⟩

/-- A law says true, with what was handed in. -/
def LawO (P : Program) (f : FuncId) (args : List AV) (outs : List (Nat × List AV)) (sla : Nat → Option Addr × Nat) (val : Nat → Int) : Prop :=
  ∀ (E : Env) (w : World), @OutOK (nameS val sla) E w outs → Calls P f (@concs (nameS val sla) E args).toArray w fun e w' => e = .returned (.bool true) ∧ RowKit.Below w.heap.size w w'

theorem lawO_of {val : Nat → Int} {F : List Fact} (h : Holds val F) {sla : Nat → Option Addr × Nat} {orc : Caller} {fuel : Nat} {f : FuncId} {args : List AV} {outs : List (Nat × List AV)} (ho : @CallerOK (symsOf val F h sla) P orc)
    (hmix : P.follows .mixedOrders = true) (ha : wfVs (· < outs.length) args) (hpl : outs.all plainO = true) (hg : saysTrue (@runO (symsOf val F h sla) P orc fuel f args outs) = true) : LawO P f args outs sla val := by
  intro E w hout
  have hout' : @OutOK (symsOf val F h sla) E w outs := by
    intro k o hk
    obtain ⟨h1, h2, h3⟩ := hout k o hk
    refine ⟨h1, fun hne i v hv => ?_, h3⟩
    rw [h2 hne i v hv, conc_val (I := nameS val sla) (J := symsOf val F h sla) rfl rfl]
  rw [concs_val (I := nameS val sla) (J := symsOf val F h sla) rfl rfl]
  exact @true_ofO P (symsOf val F h sla) orc ho hmix fuel f args outs hg ha hpl E w hout'

/-- On a way, by calls that are known anyhow. -/
theorem leafO {val : Nat → Int} {F : List Fact} (h : Holds val F) {sla : Nat → Option Addr × Nat} {orc : ∀ [Syms], Caller} {fuel : Nat} {f : FuncId} {args : List AV} {outs : List (Nat × List AV)} (ho : ∀ [Syms], CallerOK P orc)
    (hmix : P.follows .mixedOrders = true) (ha : wfVs (· < outs.length) args) (hpl : outs.all plainO = true) (hg : saysTrue (@runO (symsOf val F h sla) P (@orc (symsOf val F h sla)) fuel f args outs) = true) : LawO P f args outs sla val :=
  lawO_of h (@ho (symsOf val F h sla)) hmix ha hpl hg

/-- On a way, by a table too. -/
theorem leafOT {val : Nat → Int} {F : List Fact} (h : Holds val F) {sla : Nat → Option Addr × Nat} {orc : ∀ [Syms], Caller} {fuel : Nat} {f : FuncId} {args : List AV} {outs : List (Nat × List AV)} {tab : List (FuncId × List AV × AV)} (ho : ∀ [Syms], CallerOK P orc)
    (hmix : P.follows .mixedOrders = true) (ha : wfVs (· < outs.length) args) (hpl : outs.all plainO = true) (hb : tab.all (fun x => bodyOK P x.1) = true) (hp : tab.all (fun x => plain x.2.2 && plains x.2.1) = true) (ht : TabOK P val sla tab)
    (hg : saysTrue (@runO (symsOf val F h sla) P (orElse (@orc (symsOf val F h sla)) (tabO tab)) fuel f args outs) = true) : LawO P f args outs sla val :=
  lawO_of h (@orElse_sound P (symsOf val F h sla) _ _ (@ho (symsOf val F h sla)) (tabOK_sound h hb hp ht)) hmix ha hpl hg

/-! A function that says whether a number is one of a list. -/

/-- What it does, of a list of these numbers. -/
def InC (P : Program) (f : FuncId) (ns : List Int) : Prop :=
  ∀ (n : Int) (b off cap : Nat) (w : World), ns.length ≤ cap → b < w.heap.size → (∀ (i : Nat) (m : Int), ns[i]? = some m → w.cell? ⟨b, off + i, none⟩ = some (.int .i64 m)) →
    Calls P f #[.int .i64 n, .slice (some ⟨b, off, none⟩) ns.length cap] w fun e w' => e = .returned (.bool (ns.any fun m => n == m)) ∧ RowKit.Below w.heap.size w w'

noncomputable def constsOf : List AV → Option (List Int)
  | [] => some []
  | .v (.int .i64 n) :: r => match constsOf r with
    | some l => some (n :: l)
    | none => none
  | _ => none

noncomputable def intsEq : List Int → List Int → Bool
  | [], [] => true
  | a :: r, b :: s => bAnd (iEq a b) (intsEq r s)
  | _, _ => false

theorem intsEq_sound : ∀ (a b : List Int), intsEq a b = true → a = b
  | [], [], _ => rfl
  | [], _ :: _, h => by simp [intsEq] at h
  | _ :: _, [], h => by simp [intsEq] at h
  | a :: r, b :: s, h => by
    have h' : bAnd (iEq a b) (intsEq r s) = true := by simpa [intsEq] using h
    rw [iEq_iff.1 (bAnd_true h').1, intsEq_sound r s (bAnd_true h').2]

theorem constsOf_get [Syms] (E : Env) : ∀ (l : List AV) (ns : List Int), constsOf l = some ns → l.length = ns.length ∧ concs E l = ns.map fun n => Value.int .i64 n
  | [], ns, h => by simp only [constsOf, Option.some.injEq] at h; subst h; exact ⟨rfl, rfl⟩
  | x :: r, ns, h => by
    unfold constsOf at h
    split at h
    · cases ‹x :: r = []›
    · rename_i n r' he
      cases he
      split at h
      · rename_i l hl
        cases h
        obtain ⟨h1, h2⟩ := constsOf_get E _ _ hl
        exact ⟨by simp [h1], by simp [concs, conc, h2]⟩
      · cases h
    · cases h

noncomputable def inSlRes [Syms] (tabs : List (List Int)) (S : AS) (args : List AV) : Option AV :=
  match args with
  | [x, .sl b off len cap] =>
    match asSX x, blkOf S.hp b with
    | some (k, e), some B =>
      match bAnd (kEq k .i64) (bAnd (isOwn B) (Nat.ble len cap)) with
      | true => match readCells B off len with
        | some l => match constsOf l with
          | some ns => match tabs.any (intsEq ns) with
            | true => some (bOf (oneIn e ns))
            | false => none
          | none => none
        | none => none
      | false => none
    | _, _ => none
  | _ => none

noncomputable def inSlO [Syms] (f0 : FuncId) (tabs : List (List Int)) : Caller := fun f args S =>
  match Nat.beq f f0 with
  | true => match inSlRes tabs S args with
    | some v => some (v, S)
    | none => none
  | false => none

theorem inSlO_sound [Syms] {f0 : FuncId} {tabs : List (List Int)} (hf : bodyOK P f0 = true) (hr : ∀ ns ∈ tabs, InC P f0 ns) : CallerOK P (inSlO f0 tabs) := by
  refine CallerOK.of ?_
  intro f args S v S' h
  unfold inSlO at h
  split at h
  · rename_i hff
    obtain rfl : f = f0 := Nat.eq_of_beq_eq_true hff
    split at h
    · rename_i u hu
      cases h
      unfold inSlRes at hu
      split at hu
      · rename_i x b off len cap
        split at hu
        · rename_i k e B hx hB
          split at hu
          · rename_i hc
            obtain ⟨hk, hc2⟩ := bAnd_true hc
            obtain ⟨ho, hlc⟩ := bAnd_true hc2
            obtain rfl := kEq_sound hk
            split at hu
            · rename_i l hl
              split at hu
              · rename_i ns hns
                split at hu
                · rename_i hin
                  cases hu
                  refine ⟨bodyOK_spec hf, Nat.le_refl _, fun b _ hn => hn, fun E A w hA hH hw => ?_⟩
                  obtain ⟨t, ht1, ht2⟩ := List.any_eq_true.1 hin
                  obtain rfl := intsEq_sound _ _ ht2
                  obtain ⟨q1, _, q3⟩ := hH.cells hB (isOwn_iff.1 ho) hl
                  obtain ⟨p1, p2⟩ := constsOf_get E l ns hns
                  have hlen : ns.length = len := by rw [← p1, q1]
                  have := hr ns ht1 (e.eval Syms.val) (E.ρ b) off cap w (by rw [hlen]; exact Nat.le_of_ble_eq_true hlc) (hH.blk b B hB).lt (fun i m hm => by
                    have := q3 i (.int .i64 m) (by rw [p2, List.getElem?_map, hm]; rfl)
                    rw [add_lit] at this
                    exact this)
                  rw [hlen] at this
                  simp only [concs, asSX_conc (E := E) hx, conc]
                  refine this.mono fun e' w' he => ?_
                  refine ⟨E, ?_, gives_below hH (plain_wf _ (bOf_plain _)) he.2⟩
                  rw [he.1, (bOf_conc (E := E) (A := A) _).1, oneIn_eval]
                · cases hu
              · cases hu
            · cases hu
          · cases hu
        · cases hu
      · cases hu
    · cases h
  · cases h

/-- Does the run say whether the number is one of the list? -/
noncomputable def saysIn [Syms] (P : Program) (f : FuncId) (ns : List Int) : Bool :=
  match runO P noOrc 1000 f [.sx .i64 (.a 0), .os 0 0 ns.length 1 0] [(1, ns.map fun n => .v (.int .i64 n))] with
  | some (v, _) => bAnd (plain v) (sameC v (.sb (oneIn (.a 0) ns)))
  | none => false

/-- What is to be shown of a way. -/
def InQ (P : Program) (f : FuncId) (ns : List Int) (val : Nat → Int) : Prop :=
  ∀ (b off : Nat) (w : World), b < w.heap.size → (∀ (i : Nat) (m : Int), ns[i]? = some m → w.cell? ⟨b, off + i, none⟩ = some (.int .i64 m)) →
    Calls P f #[.int .i64 (val 0), .slice (some ⟨b, off, none⟩) ns.length (val 1).toNat] w fun e w' => e = .returned (.bool (ns.any fun m => val 0 == m)) ∧ RowKit.Below w.heap.size w w'

theorem leafIn {f : FuncId} {ns : List Int} {val : Nat → Int} {F : List Fact} (h : Holds val F) (hmix : P.follows .mixedOrders = true) (hg : @saysIn (symsOf val F h fun _ => (none, 0)) P f ns = true) : InQ P f ns val := by
  letI := symsOf val F h fun _ => (none, 0)
  intro b off w hb hc
  unfold saysIn at hg
  split at hg
  · rename_i v S' hr
    obtain ⟨h1, h2⟩ := bAnd_true hg
    have hout : OutOK ⟨fun _ => b, fun _ => off⟩ w [(1, ns.map fun n => AV.v (.int .i64 n))] := by
      intro k o hk
      cases k with
      | zero =>
        simp only [List.getElem?_cons_zero, Option.some.injEq] at hk
        subst hk
        refine ⟨hb, fun _ i u hu => ?_, fun ki k0 n hr => by simp at hr⟩
        simp only [List.getElem?_map, Option.map_eq_some_iff] at hu
        obtain ⟨m, hm, rfl⟩ := hu
        simp only [conc]
        exact hc i m hm
      | succ k => simp at hk
    have hpl : ∀ ns : List Int, plains (ns.map fun n => AV.v (.int .i64 n)) = true := by
      intro ns
      induction ns with
      | nil => simp [plains]
      | cons a r ih => simp only [List.map_cons, plains, plain]; exact ih
    have := runO_sound noOrc_sound hmix hr ⟨trivial, Nat.zero_lt_one, trivial⟩ (by simp only [List.all_cons, List.all_nil, Bool.and_true]; exact hpl ns) ⟨fun _ => b, fun _ => off⟩ w hout
    simp only [concs, conc, Nat.add_zero, Nat.sub_zero, SX.eval] at this
    refine this.mono fun e w' he => ?_
    obtain ⟨E', rfl, hbw⟩ := he
    refine ⟨?_, hbw⟩
    rw [sameC_sound (E := E') h2]
    simp only [conc, oneIn_eval, SX.eval]
    rfl
  · cases hg

theorem inC_of {f : FuncId} {ns : List Int} (h : ∀ val : Nat → Int, Holds val [.ge (.a 1) ns.length] → InQ P f ns val) : InC P f ns := by
  intro n b off cap w hcap hb hc
  have := h (fun k => match k with | 0 => n | _ => (cap : Int)) (by
    intro g hg
    simp only [List.mem_singleton] at hg
    subst hg
    simp only [Fact.holds, SX.eval]
    omega) b off w hb hc
  simpa using this

end

end Go.Sim
