/-
  Slices of bytes that append has made of slices of any length.
-/
import Derived.Test.YtbenfglhomiocaaSimC
namespace Go.Sim

/-! Calls of a slice of bytes that append has made, known by some bytes that stand in its midst; calls of the first bytes of such a slice. -/

/-- A call: whose bytes are known from a number on (full), or which is handed the first e bytes of these alone (e). -/
structure LE where
  f : FuncId
  n : Option SX
  N : SX
  l : List AV
  as : List AV
  res : AV

/-- Is this the slice that the entry means? -/
noncomputable def leAt [Syms] (S : AS) (s : AV) (x : LE) : Bool :=
  match s with
  | .lsl b e => match blkOf S.hp b with
    | some B => match catOf B with
      | some y => match x.n with
        | none => bAnd (sxEq e y.2.1) (bAnd (sxEq y.1 x.N) (match Syms.dec (.le e (.c 65536)) with | some true => avEqs y.2.2 x.l | _ => false))
        | some _ => false
      | none => match x.n with
        | some e' => bAnd (sxEq e e') (bAnd (B.grown && Nat.ble (lenL x.l) 65536) (bAnd (Nat.beq B.s 1) (bAnd (isOwn B) (match readCells B 0 (lenL x.l), Syms.dec (.le (.c 0) e), Syms.dec (.le e (.c (Int.ofNat (lenL x.l)))) with | some l, some true, some true => avEqs l x.l | _, _, _ => false))))
        | none => false
    | none => false
  | .slu b k => match blkOf S.hp b with
    | some B => match x.n with
      | none => bAnd (sxEq x.N (.c 0)) (bAnd B.grown (bAnd (Nat.beq B.s 1) (bAnd (isOwn B) (bAnd (Nat.ble k B.n && Nat.ble k 65536) (bAnd (x.l.all isByte) (match readCells B 0 k with | some l => avEqs l x.l | none => false))))))
      | some _ => false
    | none => false
  | .sl b 0 k cap => match blkOf S.hp b with
    | some B => match x.n with
      | none => bAnd (sxEq x.N (.c 0)) (bAnd (Nat.ble k cap && Nat.ble k 65536) (bAnd (isOwn B) (bAnd (x.l.all isByte) (match readCells B 0 k with | some l => avEqs l x.l | none => false))))
      | some _ => false
    | none => false
  | _ => false

noncomputable def lslO [Syms] (l : List LE) : Caller := fun f args S =>
  match args with
  | s :: as => match l.find? (fun x => bAnd (Nat.beq x.f f) (bAnd (avEqs x.as as) (leAt S s x))) with
    | some x => some (x.res, S)
    | none => none
  | [] => none

/-- The calls of such a table are so. -/
def LslOK (P : Program) (val : Nat → Int) (sla : Nat → Option Addr × Nat) (l : List LE) : Prop :=
  ∀ x ∈ l, ∀ (w : World) (p n cap : Nat), p < w.heap.size → n ≤ cap → n ≤ 65536 →
    (match x.n with
      | none => (∀ j, j < n → ∃ z, w.cell? ⟨p, j, none⟩ = some (.int .u8 z)) ∧ 0 ≤ x.N.eval val ∧ x.N.eval val + x.l.length ≤ n ∧ ∀ (i : Nat) (v : AV), x.l[i]? = some v → w.cell? ⟨p, (x.N.eval val).toNat + i, none⟩ = some (@conc (nameS val sla) E0 v)
      | some e => (n : Int) = e.eval val ∧ ∀ (i : Nat) (v : AV), x.l[i]? = some v → w.cell? ⟨p, i, none⟩ = some (@conc (nameS val sla) E0 v)) →
    Calls P x.f (.slice (some ⟨p, 0, none⟩) n cap :: @concs (nameS val sla) E0 x.as).toArray w fun e w' => e = .returned (@conc (nameS val sla) E0 x.res) ∧ RowKit.Below w.heap.size w w'

/-- May the entry stand in a table? -/
noncomputable def leOK (P : Program) (x : LE) : Bool := bAnd (bodyOK P x.f) (bAnd (plain x.res) (bAnd (plains x.as) (plains x.l)))

theorem plains_mem : ∀ {l : List AV} {u : AV}, plains l = true → u ∈ l → plain u = true
  | x :: l, u, h, hu => by
    obtain ⟨h1, h2⟩ := bAnd_true (a := plain x) (b := plains l) h
    rcases List.mem_cons.1 hu with rfl | hu
    · exact h1
    · exact plains_mem h2 hu

theorem cells_own [Syms] {E : Env} {A : Nat → Prop} {S : AS} {w : World} (hH : HRel E A (blkOf S.hp) w) {b k : Nat} {B : Blk} (hB : blkOf S.hp b = some B) (ho : isOwn B = true) {l : List AV} (hl : readCells B 0 k = some l) :
    l.length = k ∧ ∀ (i : Nat) (v : AV), l[i]? = some v → w.cell? ⟨E.ρ b, i, none⟩ = some (conc E v) := by
  obtain ⟨o1, _, o3⟩ := hH.cells hB (isOwn_iff.1 ho) hl
  refine ⟨o1, fun i v hv => ?_⟩
  have := o3 i (conc E v) (by rw [concs_eq, List.getElem?_map, hv]; rfl)
  rw [add_lit, Nat.zero_add] at this
  exact this

theorem lslO_sound {P : Program} {val : Nat → Int} {F : List Fact} (h : Holds val F) {sla : Nat → Option Addr × Nat} {l : List LE} (hb : l.all (leOK P) = true) (ht : LslOK P val sla l) : @CallerOK (symsOf val F h sla) P (@lslO (symsOf val F h sla) l) := by
  letI I := symsOf val F h sla
  intro f args S v S' hc
  unfold lslO at hc
  split at hc
  rotate_left
  · cases hc
  rename_i s as
  split at hc
  rotate_left
  · cases hc
  rename_i x hx
  cases hc
  have h1 := List.mem_of_find?_eq_some hx
  have h23 := List.find?_some hx
  obtain ⟨h2, h3⟩ := bAnd_true (a := Nat.beq x.f f) (b := bAnd (avEqs x.as as) (leAt S s x)) h23
  obtain ⟨h3, h4⟩ := bAnd_true h3
  obtain rfl : x.f = f := Nat.eq_of_beq_eq_true h2
  obtain rfl := avEqs_sound _ _ h3
  obtain ⟨k1, hk⟩ := bAnd_true (List.all_eq_true.1 hb x h1)
  obtain ⟨k2, hk⟩ := bAnd_true hk
  obtain ⟨k3, k4⟩ := bAnd_true hk
  refine ⟨bodyOK_spec k1, Nat.le_refl _, fun b _ hn => hn, fun E A w hA hH _ => ?_⟩
  have hcv : ∀ (i : Nat) (u : AV), x.l[i]? = some u → @conc (nameS val sla) E0 u = conc E u := fun i u hu => by
    rw [conc_val (I := nameS val sla) (J := symsOf val F h sla) rfl rfl]
    exact plain_conc (E := E0) (E' := E) u (plains_mem k4 (List.mem_of_getElem? hu))
  have fin : ∀ (p n cap : Nat), conc E s = .slice (some ⟨p, 0, none⟩) n cap → p < w.heap.size → n ≤ cap → n ≤ 65536 →
      (match x.n with
      | none => (∀ j, j < n → ∃ z, w.cell? ⟨p, j, none⟩ = some (.int .u8 z)) ∧ 0 ≤ x.N.eval val ∧ x.N.eval val + x.l.length ≤ n ∧ ∀ (i : Nat) (v : AV), x.l[i]? = some v → w.cell? ⟨p, (x.N.eval val).toNat + i, none⟩ = some (conc E v)
      | some e => (n : Int) = e.eval val ∧ ∀ (i : Nat) (v : AV), x.l[i]? = some v → w.cell? ⟨p, i, none⟩ = some (conc E v)) →
      Calls P x.f (concs E (s :: x.as)).toArray w fun e w' => ∃ E', e = .returned (conc E' x.res) ∧ Gives E A S S w x.res E' w' := by
    intro p n cap hs hp hn hx hm
    have hm' : (match x.n with
      | none => (∀ j, j < n → ∃ z, w.cell? ⟨p, j, none⟩ = some (.int .u8 z)) ∧ 0 ≤ x.N.eval val ∧ x.N.eval val + x.l.length ≤ n ∧ ∀ (i : Nat) (v : AV), x.l[i]? = some v → w.cell? ⟨p, (x.N.eval val).toNat + i, none⟩ = some (@conc (nameS val sla) E0 v)
      | some e => (n : Int) = e.eval val ∧ ∀ (i : Nat) (v : AV), x.l[i]? = some v → w.cell? ⟨p, i, none⟩ = some (@conc (nameS val sla) E0 v)) := by
      cases hxn : x.n with
      | none =>
        rw [hxn] at hm
        exact ⟨hm.1, hm.2.1, hm.2.2.1, fun i u hu => by rw [hcv i u hu]; exact hm.2.2.2 i u hu⟩
      | some e =>
        rw [hxn] at hm
        exact ⟨hm.1, fun i u hu => by rw [hcv i u hu]; exact hm.2 i u hu⟩
    have h6 := ht x h1 w p n cap hp hn hx hm'
    rw [concs_val (I := nameS val sla) (J := symsOf val F h sla) rfl rfl, conc_val (I := nameS val sla) (J := symsOf val F h sla) rfl rfl, plain_conc (E := E0) (E' := E) _ k2, plains_conc (E := E0) (E' := E) _ k3] at h6
    have e : concs E (s :: x.as) = .slice (some ⟨p, 0, none⟩) n cap :: concs E x.as := by simp only [concs, hs]
    rw [e]
    exact h6.mono fun e w' he => ⟨E, he.1, gives_below hH (plain_wf _ k2) he.2⟩
  have whole : ∀ {p k : Nat} {l' : List AV}, x.N = .c 0 → l' = x.l → x.l.all isByte = true → l'.length = k → (∀ (i : Nat) (v : AV), l'[i]? = some v → w.cell? ⟨p, i, none⟩ = some (conc E v)) →
      (∀ j, j < k → ∃ z, w.cell? ⟨p, j, none⟩ = some (.int .u8 z)) ∧ 0 ≤ x.N.eval val ∧ x.N.eval val + x.l.length ≤ (k : Int) ∧ ∀ (i : Nat) (v : AV), x.l[i]? = some v → w.cell? ⟨p, (x.N.eval val).toNat + i, none⟩ = some (conc E v) := by
    intro p k l' q0 q6 q5 o1 o2
    have e0 : x.N.eval val = 0 := by rw [q0]; rfl
    rw [e0]
    subst q6
    refine ⟨fun j hj => ?_, Int.le_refl _, by omega, fun i u hu => by rw [show (0 : Int).toNat + i = i by simp]; exact o2 i u hu⟩
    have hj' : j < x.l.length := by omega
    obtain ⟨z, hz⟩ := (isByte_ok (List.all_eq_true.1 q5 x.l[j] (List.getElem_mem hj'))).2 E
    exact ⟨z, by rw [o2 j _ (List.getElem?_eq_getElem hj'), hz]⟩
  unfold leAt at h4
  split at h4
  · rename_i b e _
    split at h4
    · rename_i B hB
      split at h4
      · rename_i y hy
        split at h4
        · rename_i hn
          obtain ⟨q1, h4⟩ := bAnd_true h4
          obtain ⟨q2, h4⟩ := bAnd_true h4
          have q1 := sxEq_sound _ _ q1
          have q2 := sxEq_sound _ _ q2
          split at h4
          rotate_left
          · cases h4
          rename_i hb'
          have q3 := avEqs_sound _ _ h4
          have hb' : decide (e.eval Syms.val ≤ (65536 : Int)) = true := Syms.decOK _ _ hb'
          have hb' := of_decide_eq_true hb'
          rw [q1] at hb'
          obtain ⟨c, c1, c2⟩ := (hH.blk b B hB).cat y hy
          have p0 := c2.pos
          have pf := c2.fit
          have pl := c2.le
          refine fin (E.ρ b) (y.2.1.eval Syms.val).toNat (E.κ b) (by rw [q1]; rfl) (hH.blk b B hB).lt (by omega) (by omega) ?_
          rw [hn]
          refine ⟨fun j hj => ?_, ?_, ?_, fun i u hu => ?_⟩
          · obtain ⟨z, hz⟩ := c2.all j (by omega)
            exact ⟨z, by simp only [World.cell?, c1]; simpa using hz⟩
          · rw [← q2]; exact p0
          · rw [← q2, ← q3]
            have : y.1.eval val + (y.2.2.length : Int) ≤ y.2.1.eval Syms.val := pf
            omega
          · rw [← q3] at hu
            rw [← q2]
            have := c2.cells i u hu
            simp only [World.cell?, c1]
            have e2 : y.1.eval val = y.1.eval Syms.val := rfl
            rw [e2]
            simpa using this
        · cases h4
      · split at h4
        · rename_i e' hn
          obtain ⟨q1, h4⟩ := bAnd_true h4
          obtain ⟨q2, h4⟩ := bAnd_true h4
          obtain ⟨q2, q8⟩ := Bool.and_eq_true_iff.1 q2
          have q8 := Nat.le_of_ble_eq_true q8
          rw [lenL_eq] at q8
          obtain ⟨q3, h4⟩ := bAnd_true h4
          obtain ⟨q4, h4⟩ := bAnd_true h4
          have q1 := sxEq_sound _ _ q1
          have q3 := Nat.eq_of_beq_eq_true q3
          split at h4
          · rename_i l' hl g1 g2
            have q5 := avEqs_sound _ _ h4
            obtain ⟨c, c1, c2, c3⟩ := (hH.blk b B hB).own (isOwn_iff.1 q4)
            obtain ⟨d1, d2, d3⟩ := c3 q2
            rw [q3, Nat.mul_one] at d1
            obtain ⟨o1, o2⟩ := cells_own hH hB q4 hl
            have g1 : decide ((0 : Int) ≤ e.eval Syms.val) = true := Syms.decOK _ _ g1
            have g2 : decide (e.eval Syms.val ≤ ((lenL x.l : Nat) : Int)) = true := Syms.decOK _ _ g2
            have g1 := of_decide_eq_true g1
            have g2 := of_decide_eq_true g2
            rw [lenL_eq] at g2 o1
            have hcap : l'.length ≤ E.κ b := by
              rcases Nat.eq_zero_or_pos l'.length with h0 | h0
              · omega
              · have := o2 (l'.length - 1) _ (List.getElem?_eq_getElem (by omega))
                simp only [World.cell?, c1] at this
                have := (Array.getElem?_eq_some_iff.1 (show c[l'.length - 1]? = some _ by simpa using this)).1
                omega
            refine fin (E.ρ b) (e.eval Syms.val).toNat (E.κ b) rfl (hH.blk b B hB).lt (by omega) (by omega) ?_
            rw [hn]
            refine ⟨?_, fun i u hu => o2 i u (by rw [q5]; exact hu)⟩
            rw [← q1]
            have e2 : e.eval val = e.eval Syms.val := rfl
            rw [e2]
            omega
          · cases h4
        · cases h4
    · cases h4
  · rename_i b k _
    split at h4
    · rename_i B hB
      split at h4
      · rename_i hn
        obtain ⟨q0, h4⟩ := bAnd_true h4
        obtain ⟨q1, h4⟩ := bAnd_true h4
        obtain ⟨q2, h4⟩ := bAnd_true h4
        obtain ⟨q3, h4⟩ := bAnd_true h4
        obtain ⟨q4, h4⟩ := bAnd_true h4
        obtain ⟨q5, h4⟩ := bAnd_true h4
        split at h4
        · rename_i l' hl
          have q0 := sxEq_sound _ _ q0
          have q2 := Nat.eq_of_beq_eq_true q2
          obtain ⟨q4, q8⟩ := Bool.and_eq_true_iff.1 q4
          have q8 := Nat.le_of_ble_eq_true q8
          have q4 := Nat.le_of_ble_eq_true q4
          have q6 := avEqs_sound _ _ h4
          obtain ⟨c, c1, c2, c3⟩ := (hH.blk b B hB).own (isOwn_iff.1 q3)
          obtain ⟨d1, d2, d3⟩ := c3 q1
          rw [q2, Nat.mul_one] at d1
          obtain ⟨o1, o2⟩ := cells_own hH hB q3 hl
          refine fin (E.ρ b) k (E.κ b) rfl (hH.blk b B hB).lt (by omega) (by omega) ?_
          rw [hn]
          exact whole q0 q6 q5 o1 o2
        · cases h4
      · cases h4
    · cases h4
  · rename_i b k cap _
    split at h4
    · rename_i B hB
      split at h4
      · rename_i hn
        obtain ⟨q0, h4⟩ := bAnd_true h4
        obtain ⟨q1, h4⟩ := bAnd_true h4
        obtain ⟨q3, h4⟩ := bAnd_true h4
        obtain ⟨q5, h4⟩ := bAnd_true h4
        split at h4
        · rename_i l' hl
          have q0 := sxEq_sound _ _ q0
          have q6 := avEqs_sound _ _ h4
          obtain ⟨o1, o2⟩ := cells_own hH hB q3 hl
          obtain ⟨q1, q7⟩ := Bool.and_eq_true_iff.1 q1
          have q7 := Nat.le_of_ble_eq_true q7
          refine fin (E.ρ b) k cap rfl (hH.blk b B hB).lt (Nat.le_of_ble_eq_true q1) q7 ?_
          rw [hn]
          exact whole q0 q6 q5 o1 o2
        · cases h4
      · cases h4
    · cases h4
  · cases h4

end Go.Sim
