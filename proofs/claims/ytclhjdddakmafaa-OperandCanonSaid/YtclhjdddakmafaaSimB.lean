/-
  Structs that are handed in; laws by known calls.
-/
import Derived.Test.YtclhjdddakmafaaSim
import Derived.ProofKit
namespace Go.Sim

/-! A struct that was handed in, cell by cell: each cell reads by its own type. -/

mutual
theorem conc_val {I J : Syms} (h1 : I.val = J.val) (h2 : I.sla = J.sla) (E : Env) : ∀ x : AV, @conc I E x = @conc J E x
  | .v _ => by simp [conc]
  | .ptr _ _ => by simp [conc]
  | .sl _ _ _ _ => by simp [conc]
  | .slu _ _ => by simp [conc]
  | .fn _ a b => by simp only [conc, concs_val h1 h2 E a, concs_val h1 h2 E b]
  | .iface _ x => by simp only [conc, conc_val h1 h2 E x]
  | .agg xs => by simp only [conc, concs_val h1 h2 E xs]
  | .tup xs => by simp only [conc, concs_val h1 h2 E xs]
  | .sym _ => by simp only [conc, h1]
  | .sx _ _ => by simp only [conc, h1]
  | .sb _ => by simp only [conc, h1]
  | .osl _ => by simp only [conc, h1, h2]
theorem concs_val {I J : Syms} (h1 : I.val = J.val) (h2 : I.sla = J.sla) (E : Env) : ∀ l : List AV, @concs I E l = @concs J E l
  | [] => by simp [concs]
  | x :: r => by simp only [concs, conc_val h1 h2 E x, concs_val h1 h2 E r]
end

/-- Names of which nothing is known. -/
noncomputable abbrev nameS (val : Nat → Int) (sla : Nat → Option Addr × Nat) : Syms := symsOf val [] holds_nil sla

/-- The calls of a table are so. -/
def TabOK (P : Program) (val : Nat → Int) (sla : Nat → Option Addr × Nat) (tab : List (FuncId × List AV × AV)) : Prop := ∀ x ∈ tab, Ret P x.1 (@concs (nameS val sla) E0 x.2.1) (@conc (nameS val sla) E0 x.2.2)

theorem tabOK_sound {P : Program} {val : Nat → Int} {F : List Fact} (h : Holds val F) {sla : Nat → Option Addr × Nat} {tab : List (FuncId × List AV × AV)} (hb : tab.all (fun x => bodyOK P x.1) = true) (hp : tab.all (fun x => plain x.2.2 && plains x.2.1) = true) (ht : TabOK P val sla tab) :
    @CallerOK (symsOf val F h sla) P (tabO tab) :=
  letI := symsOf val F h sla
  tabO_sound hb hp fun x hx => by
    have := ht x hx
    rw [concs_val (I := nameS val sla) (J := symsOf val F h sla) rfl rfl, conc_val (I := nameS val sla) (J := symsOf val F h sla) rfl rfl] at this
    exact this

/-- On a way a law says true, by known calls. -/
theorem leafTab {P : Program} {val : Nat → Int} {F : List Fact} (h : Holds val F) {sla : Nat → Option Addr × Nat} {orc : ∀ [Syms], Caller} {fuel : Nat} {f : FuncId} {args : List AV} {tab : List (FuncId × List AV × AV)} (ho : ∀ [Syms], CallerOK P orc)
    (hmix : P.follows .mixedOrders = true) (ha : plains args = true) (hb : tab.all (fun x => bodyOK P x.1) = true) (hp : tab.all (fun x => plain x.2.2 && plains x.2.1) = true) (ht : TabOK P val sla tab)
    (hg : saysTrue (@run (symsOf val F h sla) P (orElse (@orc (symsOf val F h sla)) (tabO tab)) fuel f args) = true) : Ret P f (@concs (symsOf val F h sla) E0 args) (.bool true) :=
  letI := symsOf val F h sla
  fun w => true_of (orElse_sound ho (tabOK_sound h hb hp ht)) hmix (fun _ => plains_wf args ha) hg w

/-- The types of a struct's cells, its fields one behind the other. -/
noncomputable def fieldsLeaves (P : Program) (lv : TypeId → Option (List TypeId)) : Nat → List Field → Option (List TypeId)
  | _, [] => some []
  | off, f :: r => match lv f.type with
    | some ts => match Nat.beq f.offset off && Nat.beq (P.cellsOf f.type) ts.length with
      | true => match fieldsLeaves P lv (off + ts.length) r with
        | some us => some (ts ++ us)
        | none => none
      | false => none
    | none => none

noncomputable def leaves (P : Program) : Nat → TypeId → Option (List TypeId)
  | 0, _ => none
  | n + 1, t => match P.underlying t with
    | some (.struct fs) => match fieldsLeaves P (leaves P n) 0 fs.toList with
      | some ts => match Nat.beq (P.cellsOf t) ts.length with
        | true => some ts
        | false => none
      | none => none
    | some (.array _ _) => none
    | some _ => some [t]
    | none => none

section
variable {H : Type} {enc : TypeId × Value → H} {P : Program} {w : World} {base : Nat} {spare : Nat → Bool} {held : Bool}

/-- Each cell reads by its type. -/
def CellsRead (enc : TypeId × Value → H) (P : Program) (w : World) (base : Nat) (spare : Nat → Bool) (held : Bool) (cs : List Value) (ts : List TypeId) : Prop :=
  cs.length = ts.length ∧ ∀ (i : Nat) (c : Value) (t : TypeId), cs[i]? = some c → ts[i]? = some t → ∃ fuel y, DataW.trod enc P w base spare held fuel t [c] = some y

theorem trod_one {fuel : Nat} {t : TypeId} {cs : List Value} {y : DataW H × List MemPlace} (h : DataW.trod enc P w base spare held (fuel + 1) t cs = some y) (h1 : ∀ fs, P.underlying t ≠ some (.struct fs)) (h2 : ∀ n e, P.underlying t ≠ some (.array n e)) :
    ∃ c, cs = [c] := by
  match cs with
  | [c] => exact ⟨c, rfl⟩
  | [] =>
    exfalso
    unfold DataW.trod at h
    split at h <;> first | (simp_all; done) | (rename_i hu; exact h1 _ hu) | (rename_i hu; exact h2 _ _ hu)
  | a :: b :: r =>
    exfalso
    unfold DataW.trod at h
    split at h <;> first | (simp_all; done) | (rename_i hu; exact h1 _ hu) | (rename_i hu; exact h2 _ _ hu)

theorem fields_read {lv : TypeId → Option (List TypeId)} {fuel : Nat} (ih : ∀ t cs y ts, DataW.trod enc P w base spare held fuel t cs = some y → lv t = some ts → CellsRead enc P w base spare held cs ts) (cs : List Value) :
    ∀ (fs : List Field) (off : Nat) (xs : List (DataW H × List MemPlace)) (ts : List TypeId), (fs.mapM fun f => DataW.trod enc P w base spare held fuel f.type ((cs.drop f.offset).take (P.cellsOf f.type))) = some xs →
      fieldsLeaves P lv off fs = some ts → off + ts.length ≤ cs.length → CellsRead enc P w base spare held ((cs.drop off).take ts.length) ts := by
  intro fs
  induction fs with
  | nil =>
    intro off xs ts _ hl _
    simp only [fieldsLeaves, Option.some.injEq] at hl
    subst hl
    exact ⟨by simp, fun i c t hc => by simp at hc⟩
  | cons f fs ihf =>
    intro off xs ts hm hl hlen
    simp only [List.mapM_cons] at hm
    unfold fieldsLeaves at hl
    split at hl
    · rename_i us hus
      split at hl
      · rename_i hb
        simp only [Bool.and_eq_true] at hb
        have hb1 : f.offset = off := Nat.eq_of_beq_eq_true hb.1
        have hb2 : P.cellsOf f.type = us.length := Nat.eq_of_beq_eq_true hb.2
        split at hl
        · rename_i vs hvs
          cases hl
          cases hx : DataW.trod enc P w base spare held fuel f.type ((cs.drop f.offset).take (P.cellsOf f.type)) with
          | none => rw [hx] at hm; simp at hm
          | some x =>
            rw [hx] at hm
            cases hr : (fs.mapM fun f => DataW.trod enc P w base spare held fuel f.type ((cs.drop f.offset).take (P.cellsOf f.type))) with
            | none => rw [hr] at hm; simp at hm
            | some xr =>
              rw [hb1, hb2] at hx
              obtain ⟨a1, a2⟩ := ih _ _ _ _ hx hus
              simp only [List.length_append] at hlen
              obtain ⟨b1, b2⟩ := ihf (off + us.length) xr vs hr hvs (by omega)
              refine ⟨by simp only [List.length_take, List.length_drop, List.length_append]; omega, fun i c t hc ht => ?_⟩
              have hci : (cs.drop off)[i]? = some c := by
                rw [List.getElem?_take] at hc
                split at hc
                · exact hc
                · cases hc
              by_cases hi : i < us.length
              · rw [List.getElem?_append_left hi] at ht
                exact a2 i c t (by rw [List.getElem?_take, if_pos hi]; exact hci) ht
              · rw [List.getElem?_append_right (by omega)] at ht
                have hi2 : i - us.length < vs.length := (List.getElem?_eq_some_iff.1 ht).1
                refine b2 (i - us.length) c t ?_ ht
                rw [List.getElem?_take, if_pos hi2]
                rw [List.getElem?_drop] at hci ⊢
                rw [← hci]
                congr 1
                omega
        · cases hl
      · cases hl
    · cases hl

theorem leaves_read : ∀ (n fuel : Nat) (t : TypeId) (cs : List Value) (y : DataW H × List MemPlace) (ts : List TypeId), DataW.trod enc P w base spare held fuel t cs = some y → leaves P n t = some ts →
    CellsRead enc P w base spare held cs ts := by
  intro n
  induction n with
  | zero => intro fuel t cs y ts _ hl; cases hl
  | succ n ih =>
    intro fuel t cs y ts h hl
    cases fuel with
    | zero => simp [DataW.trod] at h
    | succ fuel =>
      have h0 := h
      unfold leaves at hl
      split at hl
      · rename_i fs hu
        split at hl
        · rename_i us hus
          split at hl
          · rename_i hb
            cases hl
            have hb : P.cellsOf t = ts.length := Nat.eq_of_beq_eq_true hb
            have hs : (if cs.length = P.cellsOf t then (fs.toList.mapM fun f => DataW.trod enc P w base spare held fuel f.type ((cs.drop f.offset).take (P.cellsOf f.type))).map fun xs => ((DataW.agg (xs.map (·.1)), xs.flatMap (·.2)) : DataW H × List MemPlace) else none) = some y := by
              rw [← h]
              conv => rhs; unfold DataW.trod
              rw [hu]
            split at hs
            · rename_i hcl
              cases hm : (fs.toList.mapM fun f => DataW.trod enc P w base spare held fuel f.type ((cs.drop f.offset).take (P.cellsOf f.type))) with
              | none => rw [hm] at hs; cases hs
              | some xs =>
                have := fields_read (fun t cs y ts h hl => ih fuel t cs y ts h hl) cs fs.toList 0 xs ts hm hus (by omega)
                rw [List.drop_zero, List.take_of_length_le (by omega)] at this
                exact this
            · cases hs
          · cases hl
        · cases hl
      · cases hl
      · rename_i d h1 h2 hu
        cases hl
        obtain ⟨c, rfl⟩ := trod_one h0 (fun fs hf => h1 fs (by rw [hu] at hf; exact Option.some.inj hf)) (fun m e hf => h2 m e (by rw [hu] at hf; exact Option.some.inj hf))
        refine ⟨rfl, fun i c' t' hc ht => ?_⟩
        cases i with
        | zero =>
          simp only [List.getElem?_cons_zero, Option.some.injEq] at hc ht
          subst hc ht
          exact ⟨_, _, h0⟩
        | succ i => simp at hc
      · cases hl

/-- A cell of an int's type. -/
theorem cell_int {fuel : Nat} {t : TypeId} {k : IntKind} {c : Value} {y : DataW H × List MemPlace} (hu : P.underlying t = some (.int k)) (h : DataW.trod enc P w base spare held fuel t [c] = some y) : ∃ n, c = .int k n ∧ (Lit.int k n).wf = true := by
  cases fuel with
  | zero => simp [DataW.trod] at h
  | succ fuel =>
    unfold DataW.trod at h
    rw [hu] at h
    cases c <;> simp only [] at h <;> first | (cases h; done) | skip
    rename_i k' n
    split at h
    · rename_i hk; obtain ⟨rfl, hw⟩ := hk; exact ⟨n, rfl, hw⟩
    · cases h

/-- A struct of ints alone. -/
theorem ints_read {cs : List Value} : ∀ {ts : List TypeId}, CellsRead enc P w base spare held cs ts → (∀ t ∈ ts, P.underlying t = some (.int .i64)) →
    ∃ l : List Int, l.length = ts.length ∧ cs = l.map (fun n => Value.int .i64 n) ∧ ∀ n ∈ l, (Lit.int .i64 n).wf = true := by
  induction cs with
  | nil => intro ts h _; exact ⟨[], by have := h.1; simpa using this, rfl, fun n hn => by cases hn⟩
  | cons c cs ih =>
    intro ts h hts
    cases ts with
    | nil => have := h.1; simp at this
    | cons t ts =>
      obtain ⟨fuel, y, hy⟩ := h.2 0 c t rfl rfl
      obtain ⟨n, rfl, hn⟩ := cell_int (hts t (by simp)) hy
      obtain ⟨l, h1, h2, h3⟩ := ih (ts := ts) ⟨by have := h.1; simpa using this, fun i c' t' hc ht => h.2 (i + 1) c' t' (by simpa using hc) (by simpa using ht)⟩ (fun t ht => hts t (by simp [ht]))
      refine ⟨n :: l, by simp [h1], by simp [h2], fun m hm => ?_⟩
      rcases List.mem_cons.1 hm with rfl | hm
      · exact hn
      · exact h3 m hm

end

end Go.Sim
