/-
  Calls that make new memory, known by what they are given and give.
-/
import Derived.Test.YtlggmhchgicjkaaSimC
namespace Go.Sim

/-! Calls that are known of arguments by what these hold (structs, slices of anything), and that make new memory. -/

/-- What an argument is like: a value that is known, a slice that is empty and not nil, a slice of these cells, so many to an element. -/
inductive P1 where
  | av (x : AV)
  | em
  | sl (s : Nat) (cells : List AV)

/-- The same, or a struct of such. -/
inductive Pt where
  | one (p : P1)
  | ag (ps : List P1)

/-- A slice that is not empty, of these cells. -/
def SlOf (w : World) (s : Nat) (v : Value) (zs : List Value) : Prop :=
  ∃ b off len cap : Nat, 0 < len ∧ v = .slice (some ⟨b, off, none⟩) len cap ∧ zs.length = len * s ∧ len ≤ cap ∧ b < w.heap.size ∧ ∀ (i : Nat) (z : Value), zs[i]? = some z → w.cell? ⟨b, off + i, none⟩ = some z

def P1Of [Syms] (w : World) (p : P1) (v : Value) : Prop :=
  match p with
  | .av x => v = conc E0 x
  | .em => ∃ a cap, v = .slice (some a) 0 cap
  | .sl s cs => SlOf w s v (concs E0 cs)

def P1sOf [Syms] (w : World) : List P1 → List Value → Prop
  | [], vs => vs = []
  | p :: r, vs => ∃ v us, vs = v :: us ∧ P1Of w p v ∧ P1sOf w r us

def PtOf [Syms] (w : World) (p : Pt) (v : Value) : Prop :=
  match p with
  | .one p => P1Of w p v
  | .ag ps => ∃ vs : List Value, v = .agg vs.toArray ∧ P1sOf w ps vs

def PtsOf [Syms] (w : World) : List Pt → List Value → Prop
  | [], vs => vs = []
  | p :: r, vs => ∃ v us, vs = v :: us ∧ PtOf w p v ∧ PtsOf w r us

/-! Does an abstract value look so? -/

noncomputable def emA [Syms] : AV → Bool
  | .sl _ _ len _ => Nat.beq len 0
  | .slu _ len => Nat.beq len 0
  | .os _ _ len _ _ => Nat.beq len 0
  | .osl k => match Syms.num (.a k), (Syms.sla k).1 with
    | some (.ofNat 0), some _ => true
    | _, _ => false
  | _ => false

/-- The cells of a slice that is not empty. -/
noncomputable def slAll [Syms] (S : AS) (s : Nat) : AV → Option (List AV)
  | .sl b off len cap => match blkOf S.hp b with
    | some B => match bAnd (isOwn B) (bAnd (Nat.ble 1 len) (Nat.ble len cap)) with
      | true => readCells B off (Nat.mul len s)
      | false => none
    | none => none
  | .slu b len => match blkOf S.hp b with
    | some B => match bAnd B.grown (bAnd (Nat.ble 1 len) (bAnd (Nat.beq B.s s) (bAnd (Nat.ble 1 s) (Nat.ble (Nat.mul len s) B.n)))) with
      | true => readCells B 0 (Nat.mul len s)
      | false => none
    | none => none
  | .os b off len kc d => match blkOf S.hp b with
    | some B => match bAnd (!isOwn B) (bAnd (Nat.ble 1 len) (isTrue (Syms.dec (.le (.c (Int.ofNat (Nat.add len d))) (.a kc))))) with
      | true => readCells B off (Nat.mul len s)
      | false => none
    | none => none
  | _ => none

noncomputable def cellsIs (cs : List AV) : Option (List AV) → Bool
  | some xs => bAnd (avEqs xs cs) (plains cs)
  | none => false

noncomputable def mt1 [Syms] (S : AS) (p : P1) (y : AV) : Bool :=
  match p with
  | .av x => bAnd (avEq x y) (plain x)
  | .em => emA y
  | .sl s cs => cellsIs cs (slAll S s y)

noncomputable def mt1s [Syms] (S : AS) : List P1 → List AV → Bool
  | [], [] => true
  | p :: r, y :: s => bAnd (mt1 S p y) (mt1s S r s)
  | _, _ => false

noncomputable def mtP [Syms] (S : AS) (p : Pt) (y : AV) : Bool :=
  match p with
  | .one p => mt1 S p y
  | .ag ps => match aggOf y with
    | some ys => mt1s S ps ys
    | none => false

noncomputable def mtPs [Syms] (S : AS) : List Pt → List AV → Bool
  | [], [] => true
  | p :: r, y :: s => bAnd (mtP S p y) (mtPs S r s)
  | _, _ => false

section
variable {P : Program} {E : Env} {A : Nat → Prop} {w : World}

theorem emA_sound [Syms] {y : AV} (h : emA y = true) : ∃ a cap, conc E y = .slice (some a) 0 cap := by
  unfold emA at h
  split at h
  · rename_i b off len cap
    obtain rfl : len = 0 := Nat.eq_of_beq_eq_true h
    exact ⟨_, _, by simp only [conc]; rfl⟩
  · rename_i b len
    obtain rfl : len = 0 := Nat.eq_of_beq_eq_true h
    exact ⟨_, _, by simp only [conc]; rfl⟩
  · rename_i b off len kc d
    obtain rfl : len = 0 := Nat.eq_of_beq_eq_true h
    exact ⟨_, _, by simp only [conc]; rfl⟩
  · rename_i k
    split at h
    · rename_i a hn ha
      have := Syms.numOK _ _ hn
      simp only [SX.eval] at this
      exact ⟨a, (Syms.sla k).2, by simp [conc, this, ha]⟩
    · cases h
  · cases h

theorem slAll_sound [Syms] {S : AS} (hH : HRel E A (blkOf S.hp) w) {s : Nat} {y : AV} {cs : List AV} (h : slAll S s y = some cs) : SlOf w s (conc E y) (concs E cs) := by
  have key : ∀ {b off len cap n : Nat} {l : List AV}, 0 < len → l.length = len * s → len ≤ cap → E.ρ b < w.heap.size → (∀ j u, (concs E l)[j]? = some u → w.cell? ((⟨E.ρ b, n + off, none⟩ : Addr).add j) = some u) →
      SlOf w s (.slice (some ⟨E.ρ b, n + off, none⟩) len cap) (concs E l) := by
    intro b off len cap n l h0 hl hc hb hcell
    refine ⟨E.ρ b, n + off, len, cap, h0, rfl, by rw [concs_eq, List.length_map, hl], hc, hb, fun i z hz => ?_⟩
    have := hcell i z hz
    rw [add_lit] at this
    exact this
  unfold slAll at h
  split at h
  · rename_i b off len cap
    split at h
    · rename_i B hB
      split at h
      · rename_i hc
        obtain ⟨h1, h2⟩ := bAnd_true hc
        obtain ⟨h2, h3⟩ := bAnd_true h2
        obtain ⟨k1, _, k3⟩ := hH.cells hB (isOwn_iff.1 h1) h
        have := key (n := 0) (off := off) (Nat.le_of_ble_eq_true h2) k1 (Nat.le_of_ble_eq_true h3) (hH.blk b B hB).lt (by rw [Nat.zero_add]; exact k3)
        simpa [conc] using this
      · cases h
    · cases h
  · rename_i b len
    split at h
    · rename_i B hB
      split at h
      · rename_i hc
        obtain ⟨h1, h2⟩ := bAnd_true hc
        obtain ⟨h2, h3⟩ := bAnd_true h2
        obtain ⟨h3, h4⟩ := bAnd_true h3
        obtain ⟨h4, h5⟩ := bAnd_true h4
        have hne := (hH.blk b B hB).grown h1
        obtain ⟨k1, _, k3⟩ := hH.cells hB hne h
        obtain ⟨c, q1, q2, q3⟩ := (hH.blk b B hB).own hne
        obtain ⟨q4, _, q5⟩ := q3 h1
        have e3 : B.s = s := Nat.eq_of_beq_eq_true h3
        have e4 := Nat.le_of_ble_eq_true h4
        have e5 : len * s ≤ B.n := Nat.le_of_ble_eq_true h5
        have hcap : len ≤ E.κ b := by
          rw [e3] at q4
          have : len * s ≤ E.κ b * s := by omega
          exact Nat.le_of_mul_le_mul_right this (by omega)
        have := key (n := 0) (off := 0) (Nat.le_of_ble_eq_true h2) k1 hcap (hH.blk b B hB).lt k3
        simpa [conc] using this
      · cases h
    · cases h
  · rename_i b off len kc d
    split at h
    · rename_i B hB
      split at h
      · rename_i hc
        obtain ⟨h1, h2⟩ := bAnd_true hc
        obtain ⟨h2, h3⟩ := bAnd_true h2
        have hd := Syms.decOK _ _ (isTrue_iff h3)
        simp only [SB.eval, SX.eval] at hd
        have hd : ((len + d : Nat) : Int) ≤ Syms.val kc := of_decide_eq_true hd
        have hro : B.elem = roT := not_own (by simpa using h1)
        obtain ⟨k1, _, k3⟩ := hH.cellsRo hB hro h
        have := key (cap := (Syms.val kc).toNat - d) (Nat.le_of_ble_eq_true h2) k1 (by omega) (hH.blk b B hB).lt k3
        simpa [conc] using this
      · cases h
    · cases h
  · cases h

theorem mt1_sound [Syms] {S : AS} (hH : HRel E A (blkOf S.hp) w) {p : P1} {y : AV} (h : mt1 S p y = true) : P1Of w p (conc E y) := by
  cases p with
  | av x =>
    have h' : bAnd (avEq x y) (plain x) = true := h
    obtain ⟨h1, h2⟩ := bAnd_true h'
    have := avEq_sound _ _ h1
    subst this
    exact plain_conc x h2
  | em => exact emA_sound h
  | sl s cs =>
    have h' : cellsIs cs (slAll S s y) = true := h
    cases hc : slAll S s y with
    | none => rw [hc] at h'; cases h'
    | some xs =>
      rw [hc] at h'
      obtain ⟨h1, h2⟩ := bAnd_true h'
      have := avEqs_sound _ _ h1
      subst this
      have := slAll_sound hH hc
      rw [plains_conc (E := E) (E' := E0) xs h2] at this
      exact this

theorem mt1s_sound [Syms] {S : AS} (hH : HRel E A (blkOf S.hp) w) : ∀ {ps : List P1} {ys : List AV}, mt1s S ps ys = true → P1sOf w ps (concs E ys) := by
  intro ps
  induction ps with
  | nil => intro ys h; cases ys with
    | nil => rfl
    | cons _ _ => simp [mt1s] at h
  | cons p r ih => intro ys h; cases ys with
    | nil => simp [mt1s] at h
    | cons y s =>
      have h' : bAnd (mt1 S p y) (mt1s S r s) = true := by simpa [mt1s] using h
      exact ⟨conc E y, concs E s, by simp [concs], mt1_sound hH (bAnd_true h').1, ih (bAnd_true h').2⟩

theorem mtP_sound [Syms] {S : AS} (hH : HRel E A (blkOf S.hp) w) {p : Pt} {y : AV} (h : mtP S p y = true) : PtOf w p (conc E y) := by
  cases p with
  | one p => exact mt1_sound hH h
  | ag ps =>
    unfold mtP at h
    simp only [] at h
    split at h
    · rename_i ys hy
      exact ⟨concs E ys, aggOf_conc' hy, mt1s_sound hH h⟩
    · cases h

theorem mtPs_sound [Syms] {S : AS} (hH : HRel E A (blkOf S.hp) w) : ∀ {ps : List Pt} {ys : List AV}, mtPs S ps ys = true → PtsOf w ps (concs E ys) := by
  intro ps
  induction ps with
  | nil => intro ys h; cases ys with
    | nil => rfl
    | cons _ _ => simp [mtPs] at h
  | cons p r ih => intro ys h; cases ys with
    | nil => simp [mtPs] at h
    | cons y s =>
      have h' : bAnd (mtP S p y) (mtPs S r s) = true := by simpa [mtPs] using h
      exact ⟨conc E y, concs E s, by simp [concs], mtP_sound hH (bAnd_true h').1, ih (bAnd_true h').2⟩

end

/-! What such calls give. -/

/-- Other numbers, in a struct and in what several results are. -/
noncomputable def renA (π : Nat → Nat) : AV → AV
  | .agg xs => .agg (xs.map (ren π))
  | x => ren π x

noncomputable def renT (π : Nat → Nat) : AV → AV
  | .tup xs => .tup (xs.map (renA π))
  | x => renA π x

noncomputable def flatA (n : Nat) : AV → Bool
  | .agg xs => xs.all (flat n)
  | x => flat n x

noncomputable def flatT (n : Nat) : AV → Bool
  | .tup xs => xs.all (flatA n)
  | x => flatA n x

/-- What a call of these values gives: a value, and blocks of its own. -/
def SummV [Syms] (P : Program) (f : FuncId) (vs : List Value) (v0 : AV) (bs : List FB) (w : World) : Prop := Calls P f vs.toArray w fun e w' => ∃ E : Env, e = .returned (conc E v0) ∧
  (∀ (k : Nat) (fb : FB), bs[k]? = some fb → (∃ c : Array Value, w'.heap[E.ρ k]? = some (.cells c fb.elem (0, 0)) ∧ (∀ (i : Nat) (v : AV), fb.cells[i]? = some v → c[i]? = some (conc E v)) ∧
    (fb.grown = true → c.size = E.κ k * fb.s ∧ E.κ k ≤ maxLen ∧ fb.cells.length ≤ c.size)) ∧ w.heap.size ≤ E.ρ k) ∧
  (∀ k k' : Nat, k < bs.length → k' < bs.length → E.ρ k = E.ρ k' → k = k') ∧ RowKit.Below w.heap.size w w'

/-- A known call. -/
structure ME where
  f : FuncId
  ps : List Pt
  v0 : AV
  bs : List FB

/-- Calls of a table: the function, what its arguments are like, what it gives. -/
noncomputable def mTab [Syms] (l : List ME) : Caller := fun f args S =>
  match l.find? (fun x => bAnd (Nat.beq x.f f) (mtPs S x.ps args)) with
  | some x => fN S.nx fun nx => layAll nx x.bs 0 S.hp fun h => fN (Nat.add nx x.bs.length) fun nx' => some (renT (fun b => Nat.add b nx) x.v0, ⟨nx', h⟩)
  | none => none

noncomputable def meOK (P : Program) (x : ME) : Bool := bAnd (bodyOK P x.f) (bAnd (flatT x.bs.length x.v0) (flats x.bs.length x.bs))

section
variable {P : Program}

theorem conc_renL [Syms] (E : Env) (π : Nat → Nat) (n : Nat) (xs : List AV) (h : xs.all (flat n) = true) : concs E (xs.map (ren π)) = concs ⟨fun b => E.ρ (π b), fun b => E.κ (π b)⟩ xs := by
  rw [concs_eq, concs_eq, List.map_map]
  apply List.map_congr_left
  intro x hx
  exact conc_ren E π n x (List.all_eq_true.1 h x hx)

theorem conc_renA [Syms] (E : Env) (π : Nat → Nat) (n : Nat) (x : AV) (h : flatA n x = true) : conc E (renA π x) = conc ⟨fun b => E.ρ (π b), fun b => E.κ (π b)⟩ x := by
  unfold flatA at h
  unfold renA
  split at h
  · simp only [conc, conc_renL E π n _ h]
  · exact conc_ren E π n x h

theorem conc_renT [Syms] (E : Env) (π : Nat → Nat) (n : Nat) (x : AV) (h : flatT n x = true) : conc E (renT π x) = conc ⟨fun b => E.ρ (π b), fun b => E.κ (π b)⟩ x := by
  unfold flatT at h
  unfold renT
  split at h
  · rename_i xs
    simp only [conc]
    congr 2
    rw [concs_eq, concs_eq, List.map_map]
    apply List.map_congr_left
    intro x hx
    exact conc_renA E π n x (List.all_eq_true.1 h x hx)
  · exact conc_renA E π n x h

theorem conc_flatL [Syms] {E E' : Env} (n : Nat) (xs : List AV) (h : xs.all (flat n) = true) (he : ∀ b, b < n → E'.ρ b = E.ρ b ∧ E'.κ b = E.κ b) : concs E' xs = concs E xs := by
  rw [concs_eq, concs_eq]
  apply List.map_congr_left
  intro x hx
  exact conc_flat n x (List.all_eq_true.1 h x hx) he

theorem conc_flatA [Syms] {E E' : Env} (n : Nat) (x : AV) (h : flatA n x = true) (he : ∀ b, b < n → E'.ρ b = E.ρ b ∧ E'.κ b = E.κ b) : conc E' x = conc E x := by
  unfold flatA at h
  split at h
  · simp only [conc, conc_flatL n _ h he]
  · exact conc_flat n x h he

theorem conc_flatT [Syms] {E E' : Env} (n : Nat) (x : AV) (h : flatT n x = true) (he : ∀ b, b < n → E'.ρ b = E.ρ b ∧ E'.κ b = E.κ b) : conc E' x = conc E x := by
  unfold flatT at h
  split at h
  · simp only [conc]
    congr 2
    rw [concs_eq, concs_eq]
    apply List.map_congr_left
    intro x hx
    exact conc_flatA n x (List.all_eq_true.1 h x hx) he
  · exact conc_flatA n x h he

theorem wf_renL {A : Nat → Prop} (π : Nat → Nat) (n : Nat) (xs : List AV) (h : xs.all (flat n) = true) (hA : ∀ b, b < n → A (π b)) : wfVs A (xs.map (ren π)) := by
  rw [wfVs_iff]
  intro y hy
  obtain ⟨x, hx, rfl⟩ := List.mem_map.1 hy
  exact wf_ren π n x (List.all_eq_true.1 h x hx) hA

theorem wf_renA {A : Nat → Prop} (π : Nat → Nat) (n : Nat) (x : AV) (h : flatA n x = true) (hA : ∀ b, b < n → A (π b)) : wfV A (renA π x) := by
  unfold flatA at h
  unfold renA
  split at h
  · exact wf_renL π n _ h hA
  · exact wf_ren π n x h hA

theorem wf_renT {A : Nat → Prop} (π : Nat → Nat) (n : Nat) (x : AV) (h : flatT n x = true) (hA : ∀ b, b < n → A (π b)) : wfV A (renT π x) := by
  unfold flatT at h
  unfold renT
  split at h
  · rename_i xs
    show wfVs A _
    rw [wfVs_iff]
    intro y hy
    obtain ⟨x, hx, rfl⟩ := List.mem_map.1 hy
    exact wf_renA π n x (List.all_eq_true.1 h x hx) hA
  · exact wf_renA π n x h hA

/-- Of all calls that are known by what they make: memory behind such a call. -/
theorem summV_gives [Syms] {f0 : FuncId} {v0 : AV} {bs : List FB} {S S' : AS} {v : AV} {args : List AV} (hv : flatT bs.length v0 = true) (hb : flats bs.length bs = true)
    (h : (fN S.nx fun nx => layAll nx bs 0 S.hp fun h => fN (Nat.add nx bs.length) fun nx' => some (renT (fun b => Nat.add b nx) v0, (⟨nx', h⟩ : AS))) = some (v, S'))
    {E : Env} {A : Nat → Prop} {w : World} (hA : ∀ b, A b → b < S.nx) (hH : HRel E A (blkOf S.hp) w) (hs : SummV P f0 (concs E args) v0 bs w) :
    Calls P f0 (concs E args).toArray w fun e w' => ∃ E', e = .returned (conc E' v) ∧ Gives E A S S' w v E' w' := by
  simp only [fN_eq] at h
  obtain ⟨hp, h1, h2, h3⟩ := layAll_spec _ _ _ _ _ _ h
  cases h1
  simp only [Nat.add_zero] at h2 h3
  have hflat : ∀ (k : Nat) (fb : FB), bs[k]? = some fb → ∀ (i : Nat) (v : AV), fb.cells[i]? = some v → flat bs.length v = true := by
    intro k fb hk i v hi
    have := List.all_eq_true.1 hb fb (List.mem_of_getElem? hk)
    exact List.all_eq_true.1 this v (List.mem_of_getElem? hi)
  refine Calls.mono hs fun e w' he => ?_
  obtain ⟨E0, rfl, s1, s2, s3⟩ := he
  let E' : Env := ⟨fun b => if b < S.nx then E.ρ b else E0.ρ (b - S.nx), fun b => if b < S.nx then E.κ b else E0.κ (b - S.nx)⟩
  have hold : ∀ b, b < S.nx → E'.ρ b = E.ρ b ∧ E'.κ b = E.κ b := fun b hb => by simp [E', hb]
  have hnew : ∀ b, E'.ρ (b + S.nx) = E0.ρ b ∧ E'.κ (b + S.nx) = E0.κ b := fun b => by
    have hlt : ¬ (b + S.nx < S.nx) := by omega
    simp [E', hlt]
  have hcn : ∀ v, flat bs.length v = true → conc E' (ren (fun b => b + S.nx) v) = conc E0 v := by
    intro v hv
    rw [conc_ren E' _ _ v hv]
    exact conc_flat _ v hv fun b _ => hnew b
  have hcv : conc E' (renT (fun b => b + S.nx) v0) = conc E0 v0 := by
    rw [conc_renT E' _ _ v0 hv]
    exact conc_flatT _ v0 hv fun b _ => hnew b
  have hext : ∀ k, k < bs.length → ext A S.nx (S.nx + bs.length) (k + S.nx) := fun k hk => .inr (by omega)
  -- of each block: an old one, or a new one
  have hcases : ∀ b B, blkOf hp b = some B → (b < S.nx ∧ blkOf S.hp b = some B) ∨ ∃ (k : Nat) (fb : FB), b = k + S.nx ∧ bs[k]? = some fb ∧ B.n = fb.cells.length ∧ (B.elem = fb.elem ∧ fb.elem ≠ roT) ∧ B.grown = fb.grown ∧ (B.s = fb.s ∧ 0 < fb.s) ∧
      ∀ j, cellOf B j = (fb.cells.map (ren fun b => b + S.nx))[j]? := by
    intro b B hb
    by_cases hr : S.nx ≤ b ∧ b < S.nx + bs.length
    · right
      obtain ⟨fb, hfb⟩ : ∃ fb, bs[b - S.nx]? = some fb := ⟨_, List.getElem?_eq_getElem (by omega)⟩
      obtain ⟨B', q1, q2⟩ := h3 _ fb hfb
      rw [show S.nx + (b - S.nx) = b by omega, hb] at q1
      cases q1
      exact ⟨b - S.nx, fb, by omega, hfb, q2⟩
    · left
      rw [h2 b hr] at hb
      exact ⟨hA b (hH.mem b B hb), hb⟩
  have hcell : ∀ (k : Nat) (fb : FB) (B : Blk), bs[k]? = some fb → (∀ j, cellOf B j = (fb.cells.map (ren fun b => b + S.nx))[j]?) → ∀ i v, cellOf B i = some v → ∃ u, fb.cells[i]? = some u ∧ v = ren (fun b => b + S.nx) u := by
    intro k fb B hk hc i v hv
    rw [hc i, List.getElem?_map] at hv
    cases hu : fb.cells[i]? with
    | none => rw [hu] at hv; cases hv
    | some u => rw [hu] at hv; exact ⟨u, rfl, by simpa using hv.symm⟩
  refine ⟨E', congrArg Ending.returned hcv.symm, hold, wf_renT _ _ v0 hv hext, ⟨fun b B hb => ?_, fun b B hb => ?_, fun b B hb i v hv => ?_, fun b B hb y hy => ?_, fun b b' B B' y y' hb hb' hy hy' he => ?_, fun b b' B B' hb hb' ho he => ?_⟩,
    ⟨s3.os, s3.tape, s3.output, s3.size, fun k hk _ => s3.block k hk, fun b B hb ho => ?_, fun b B hb ho => ?_⟩⟩
  · rcases hcases b B hb with ⟨g1, g2⟩ | ⟨k, fb, rfl, hk, _⟩
    · exact .inl (hH.mem b B g2)
    · exact hext k (List.getElem?_eq_some_iff.1 hk).1
  · rcases hcases b B hb with ⟨g1, g2⟩ | ⟨k, fb, rfl, hk, q1, q2, q3, q4, q5⟩
    · exact (hH.blk b B g2).keep (hH.mem b B g2) (hH.wf b B g2) (fun j hj => hold j (hA j hj)) s3.size (s3.block _ (hH.blk b B g2).lt) (hH.spwf b B g2)
    · obtain ⟨⟨c, c1, c2, c3⟩, _⟩ := s1 k fb hk
      refine BRel.mk_own (by rw [q2.1]; exact q2.2) ⟨c, by rw [(hnew k).1, q2.1]; exact c1, fun i v hv => ?_, fun hg => ?_⟩ fun y hy => by rw [catOf_s (by rw [q4.1]; exact q4.2)] at hy; cases hy
      · obtain ⟨u, hu, rfl⟩ := hcell k fb B hk q5 i v hv
        exact ⟨by rw [q1]; exact (List.getElem?_eq_some_iff.1 hu).1, by rw [hcn u (hflat k fb hk i u hu)]; exact c2 i u hu⟩
      · rw [(hnew k).2, q4.1, q1]; exact c3 (by rw [← q3]; exact hg)
  · rcases hcases b B hb with ⟨g1, g2⟩ | ⟨k, fb, rfl, hk, q1, q2, q3, q4, q5⟩
    · exact (hH.wf b B g2 i v hv).mono (fun _ h => .inl h) v
    · obtain ⟨u, hu, rfl⟩ := hcell k fb B hk q5 i v hv
      exact wf_ren _ _ u (hflat k fb hk i u hu) hext
  · rcases hcases b B hb with ⟨g1, g2⟩ | ⟨k, fb, rfl, hk, q1, q2, q3, q4, q5⟩
    · exact (hH.spwf b B g2 y hy).mono (fun _ h => .inl h) y
    · exact absurd (spOf_ro hy) (by rw [q2.1]; exact q2.2)
  · have old : ∀ b B y, blkOf hp b = some B → spOf B = some y → b < S.nx ∧ blkOf S.hp b = some B := by
      intro b B y hb hy
      rcases hcases b B hb with ⟨g1, g2⟩ | ⟨k, fb, rfl, hk, q1, q2, q3, q4, q5⟩
      · exact ⟨g1, g2⟩
      · exact absurd (spOf_ro hy) (by rw [q2.1]; exact q2.2)
    obtain ⟨g1, g2⟩ := old b B y hb hy
    obtain ⟨g1', g2'⟩ := old b' B' y' hb' hy'
    rw [(hold b g1).1, (hold b' g1').1] at he
    exact hH.spinj b b' B B' y y' g2 g2' hy hy' he
  · rcases hcases b B hb with ⟨g1, g2⟩ | ⟨k, fb, rfl, hk, _⟩ <;> rcases hcases b' B' hb' with ⟨g1', g2'⟩ | ⟨k', fb', rfl, hk', _⟩
    · rw [(hold b g1).1, (hold b' g1').1] at he
      exact hH.inj b b' B B' g2 g2' ho he
    · rw [(hold b g1).1, (hnew k').1] at he
      have := (hH.blk b B g2).lt
      have := (s1 k' fb' hk').2
      omega
    · rw [(hold b' g1').1, (hnew k).1] at he
      have := (hH.blk b' B' g2').lt
      have := (s1 k fb hk).2
      omega
    · rw [(hnew k).1, (hnew k').1] at he
      rw [s2 k k' (List.getElem?_eq_some_iff.1 hk).1 (List.getElem?_eq_some_iff.1 hk').1 he]
  · rcases hcases b B hb with ⟨g1, g2⟩ | ⟨k, fb, rfl, hk, _⟩
    · exact .inl ⟨b, B, g2, ho, (hold b g1).1.symm⟩
    · exact .inr (by rw [(hnew k).1]; exact (s1 k fb hk).2)
  · rcases hcases b B hb with ⟨g1, g2⟩ | ⟨k, fb, rfl, hk, _, q2, _⟩
    · exact ⟨g2, (hold b g1).1⟩
    · exact absurd ho (by rw [q2.1]; exact q2.2)

theorem layAll_fresh {nx : Nat} {bs : List FB} {h : Tr (Option Blk)} {n : Nat} {v v0 : AV} {S' : AS} (hh : (layAll nx bs 0 h fun h => fN n fun nx' => some (v0, (⟨nx', h⟩ : AS))) = some (v, S')) (hn : n = nx + bs.length) :
    nx ≤ S'.nx ∧ ∀ b, b < nx → blkOf h b = none → blkOf S'.hp b = none := by
  simp only [fN_eq] at hh
  obtain ⟨hp, h1, h2, _⟩ := layAll_spec _ _ _ _ _ _ hh
  cases h1
  refine ⟨by rw [hn]; exact Nat.le_add_right _ _, fun b hb h0 => ?_⟩
  rw [h2 b (by omega)]
  exact h0

theorem mTab_sound [Syms] {l : List ME} (hl : l.all (meOK P) = true) (hr : ∀ x ∈ l, ∀ w vs, PtsOf w x.ps vs → SummV P x.f vs x.v0 x.bs w) : CallerOK P (mTab l) := by
  refine CallerOK.of ?_
  intro f args S v S' h
  unfold mTab at h
  split at h
  · rename_i x hx
    have h1 := List.mem_of_find?_eq_some hx
    have h2 := List.find?_some hx
    obtain ⟨h2, h3⟩ := bAnd_true (a := Nat.beq x.f f) (b := mtPs S x.ps args) h2
    obtain rfl : x.f = f := Nat.eq_of_beq_eq_true h2
    have h4 := List.all_eq_true.1 hl x h1
    obtain ⟨h4, h5⟩ := bAnd_true (a := bodyOK P x.f) (b := bAnd (flatT x.bs.length x.v0) (flats x.bs.length x.bs)) h4
    obtain ⟨h5, h6⟩ := bAnd_true h5
    have hfr : S.nx ≤ S'.nx ∧ ∀ b, b < S.nx → blkOf S.hp b = none → blkOf S'.hp b = none := by
      have h' := h
      rw [fN_eq] at h'
      exact layAll_fresh h' rfl
    exact ⟨bodyOK_spec h4, hfr.1, hfr.2, fun E A w hA hH _ => summV_gives h5 h6 h hA hH (hr x h1 w _ (mtPs_sound hH h3))⟩
  · cases h

/-! From a run to what is known. -/

noncomputable def fitsOneS [Syms] (hp : Tr (Option Blk)) (π : Nat → Nat) (b : Nat) (fb : FB) : Bool :=
  match blkOf hp b with
  | some B => bAnd (isOwn B) (bAnd (Nat.beq B.elem fb.elem) (bAnd (bImp fb.grown B.grown) (bAnd (Nat.beq B.s fb.s) (bAnd (Nat.beq B.n fb.cells.length)
    (match readCells B 0 fb.cells.length with
     | some l => sameCs l (fb.cells.map (ren π))
     | none => false)))))
  | none => false
where
  bImp (a b : Bool) : Bool := match a, b with
    | true, false => false
    | _, _ => true

noncomputable def fitsAllS [Syms] (hp : Tr (Option Blk)) (π : Nat → Nat) : List Nat → List FB → Bool
  | [], [] => true
  | b :: l, fb :: bs => bAnd (fitsOneS hp π b fb) (fitsAllS hp π l bs)
  | _, _ => false

/-- Does the run give the value and the blocks, by what is known? 'ids': their numbers there. -/
noncomputable def fitsS [Syms] (r : Option (AV × AS)) (ids : List Nat) (v0 : AV) (bs : List FB) : Bool :=
  match r with
  | some (v, S) => bAnd (sameT v (renT (fun k => ids.getD k 0) v0)) (bAnd (fitsAllS S.hp (fun k => ids.getD k 0) ids bs) (bAnd (apartAll ids) (bAnd (flatT bs.length v0) (flats bs.length bs))))
  | none => false

theorem fitsAllS_spec [Syms] (hp : Tr (Option Blk)) (π : Nat → Nat) : ∀ (l : List Nat) (bs : List FB), fitsAllS hp π l bs = true → l.length = bs.length ∧ ∀ (k b : Nat) (fb : FB), l[k]? = some b → bs[k]? = some fb → fitsOneS hp π b fb = true := by
  intro l
  induction l with
  | nil => intro bs h; cases bs with
    | nil => exact ⟨rfl, fun k b fb hk => by simp at hk⟩
    | cons _ _ => simp [fitsAllS] at h
  | cons b l ih => intro bs h; cases bs with
    | nil => simp [fitsAllS] at h
    | cons fb bs =>
      have h : bAnd (fitsOneS hp π b fb) (fitsAllS hp π l bs) = true := by simpa [fitsAllS] using h
      obtain ⟨h0, h⟩ := bAnd_true h
      obtain ⟨h1, h2⟩ := ih bs h
      refine ⟨by simp [h1], fun k b' fb' hk hk' => ?_⟩
      cases k with
      | zero =>
        simp only [List.getElem?_cons_zero, Option.some.injEq] at hk hk'
        subst hk hk'
        exact h0
      | succ k =>
        simp only [List.getElem?_cons_succ] at hk hk'
        exact h2 k b' fb' hk hk'

theorem summV_of [Syms] {orc : Caller} (ho : CallerOK P orc) (hmix : P.follows .mixedOrders = true) {fuel : Nat} {f : FuncId} {args : List AV} {outs : List (Nat × List AV)} {ids : List Nat} {v0 : AV} {bs : List FB}
    (h : fitsS (runO P orc fuel f args outs) ids v0 bs = true) (hargs : wfVs (· < outs.length) args) (hpl : outs.all plainO = true) (E : Env) (w : World) (hout : OutOK E w outs) : SummV P f (concs E args) v0 bs w := by
  unfold fitsS at h
  split at h
  · rename_i v S hr
    obtain ⟨h1, h⟩ := bAnd_true h
    obtain ⟨h2, h⟩ := bAnd_true h
    obtain ⟨h3, h⟩ := bAnd_true h
    obtain ⟨h4, h5⟩ := bAnd_true h
    obtain ⟨hlen, hfit⟩ := fitsAllS_spec _ _ _ _ h2
    have hap := apartAll_spec ids h3
    have hids : ∀ k, k < bs.length → ids[k]? = some (ids.getD k 0) := by
      intro k hk
      have : k < ids.length := by omega
      show ids[k]? = some ((ids[k]?).getD 0)
      rw [List.getElem?_eq_getElem this]
      rfl
    refine Calls.mono (runO_full ho hmix hr hargs hpl E w hout) fun e w' he => ?_
    obtain ⟨E', rfl, hH, hge, hbel⟩ := he
    have hone : ∀ (k : Nat) (fb : FB), bs[k]? = some fb → ∃ B, blkOf S.hp (ids.getD k 0) = some B ∧ B.elem ≠ roT ∧ B.elem = fb.elem ∧ (fb.grown = true → B.grown = true) ∧ B.s = fb.s ∧ B.n = fb.cells.length ∧
        ∀ i u, fb.cells[i]? = some u → ∃ x, cellOf B i = some x ∧ ∀ E : Env, conc E x = conc E (ren (fun k => ids.getD k 0) u) := by
      intro k fb hk
      have := hfit k _ fb (hids k (List.getElem?_eq_some_iff.1 hk).1) hk
      unfold fitsOneS at this
      split at this
      · rename_i B hB
        obtain ⟨q0, this⟩ := bAnd_true this
        obtain ⟨q1, this⟩ := bAnd_true this
        obtain ⟨q2, this⟩ := bAnd_true this
        obtain ⟨q3, this⟩ := bAnd_true this
        obtain ⟨q4, q5⟩ := bAnd_true this
        refine ⟨B, hB, isOwn_iff.1 q0, Nat.eq_of_beq_eq_true q1, fun hg => ?_, Nat.eq_of_beq_eq_true q3, Nat.eq_of_beq_eq_true q4, fun i u hu => ?_⟩
        · rw [hg] at q2
          cases hB2 : B.grown with
          | true => rfl
          | false => rw [hB2] at q2; cases q2
        · split at q5
          · rename_i l hl
            obtain ⟨r1, r2⟩ := readCells_spec _ _ _ _ hl
            obtain ⟨x, x1, x2⟩ := r2 i (List.getElem?_eq_some_iff.1 hu).1
            rw [Nat.zero_add] at x2
            refine ⟨x, x2, fun E => ?_⟩
            have hs := sameCs_sound (E := E) q5
            have e1 : (concs E l)[i]? = some (conc E x) := by rw [concs_eq, List.getElem?_map, x1]; rfl
            rw [hs, concs_eq, List.map_map, List.getElem?_map, hu] at e1
            exact (Option.some.inj e1).symm
          · cases q5
      · cases this
    have hflat : ∀ (k : Nat) (fb : FB), bs[k]? = some fb → ∀ (i : Nat) (v : AV), fb.cells[i]? = some v → flat bs.length v = true := by
      intro k fb hk i v hi
      have := List.all_eq_true.1 h5 fb (List.mem_of_getElem? hk)
      exact List.all_eq_true.1 this v (List.mem_of_getElem? hi)
    refine ⟨⟨fun k => E'.ρ (ids.getD k 0), fun k => E'.κ (ids.getD k 0)⟩, by rw [sameT_sound (E := E') h1, conc_renT E' _ _ v0 h4], fun k fb hk => ?_, fun k k' hk hk' he => ?_, hbel⟩
    · obtain ⟨B, b1, b0, b2, b3, b4, b5, b6⟩ := hone k fb hk
      obtain ⟨c, c1, c2, c3⟩ := (hH.blk _ B b1).own b0
      refine ⟨⟨c, by rw [← b2]; exact c1, fun i v hi => ?_, fun hg => ?_⟩, hge _ B b1 b0⟩
      · obtain ⟨x, x1, x2⟩ := b6 i v hi
        rw [(c2 i _ x1).2, x2 E', conc_ren E' _ _ v (hflat k fb hk i v hi)]
      · rw [← b4, ← b5]; exact c3 (b3 hg)
    · obtain ⟨fb, hfb⟩ : ∃ fb, bs[k]? = some fb := ⟨_, List.getElem?_eq_getElem hk⟩
      obtain ⟨fb', hfb'⟩ : ∃ fb, bs[k']? = some fb := ⟨_, List.getElem?_eq_getElem hk'⟩
      obtain ⟨B, b1, b0, _⟩ := hone k fb hfb
      obtain ⟨B', b1', _⟩ := hone k' fb' hfb'
      have := hH.inj _ _ B B' b1 b1' (.inl b0) he
      exact hap k k' (ids.getD k 0) (hids k hk) (by rw [this]; exact hids k' hk')
  · cases h

/-- The same, told of numbers that stand for the names. -/
def RetM (P : Program) (f : FuncId) (args : List AV) (outs : List (Nat × List AV)) (sla : Nat → Option Addr × Nat) (val : Nat → Int) (v0 : AV) (bs : List FB) : Prop :=
  ∀ (E : Env) (w : World), @OutOK (nameS val sla) E w outs → @SummV (nameS val sla) P f (@concs (nameS val sla) E args) v0 bs w

theorem summV_val {I J : Syms} (h1 : I.val = J.val) (h2 : I.sla = J.sla) {f : FuncId} {vs : List Value} {v0 : AV} {bs : List FB} {w : World} (h : @SummV I P f vs v0 bs w) : @SummV J P f vs v0 bs w := by
  refine Calls.mono h fun e w' he => ?_
  obtain ⟨E, he, s1, s2, s3⟩ := he
  refine ⟨E, by rw [← conc_val (I := I) (J := J) h1 h2]; exact he, fun k fb hk => ?_, s2, s3⟩
  obtain ⟨⟨c, c1, c2, c3⟩, c4⟩ := s1 k fb hk
  exact ⟨⟨c, c1, fun i v hi => by rw [← conc_val (I := I) (J := J) h1 h2]; exact c2 i v hi, c3⟩, c4⟩

theorem outOK_val {I J : Syms} (h1 : I.val = J.val) (h2 : I.sla = J.sla) {E : Env} {w : World} {outs : List (Nat × List AV)} (h : @OutOK I E w outs) : @OutOK J E w outs := by
  intro k o hk
  obtain ⟨k1, k2, k3⟩ := h k o hk
  refine ⟨k1, fun hne i v hv => ?_, fun ki k0 n he => ?_⟩
  · rw [k2 hne i v hv, conc_val (I := I) (J := J) h1 h2]
  · have := k3 ki k0 n he
    intro i hi
    have h' := this i (by rw [h1]; exact hi)
    rw [h1] at h'
    exact h'

theorem retM_of {val : Nat → Int} {F : List Fact} (h : Holds val F) {sla : Nat → Option Addr × Nat} {orc : Caller} {fuel : Nat} {f : FuncId} {args : List AV} {outs : List (Nat × List AV)} {ids : List Nat} {v0 : AV} {bs : List FB} (ho : @CallerOK (symsOf val F h sla) P orc)
    (hmix : P.follows .mixedOrders = true) (ha : wfVs (· < outs.length) args) (hpl : outs.all plainO = true) (hg : @fitsS (symsOf val F h sla) (@runO (symsOf val F h sla) P orc fuel f args outs) ids v0 bs = true) : RetM P f args outs sla val v0 bs := by
  intro E w hout
  rw [concs_val (I := nameS val sla) (J := symsOf val F h sla) rfl rfl]
  exact summV_val (I := symsOf val F h sla) (J := nameS val sla) rfl rfl (@summV_of P (symsOf val F h sla) orc ho hmix fuel f args outs ids v0 bs hg ha hpl E w (outOK_val (I := nameS val sla) (J := symsOf val F h sla) rfl rfl hout))

/-- The calls of such a table are so. -/
def MTabOK (P : Program) (val : Nat → Int) (sla : Nat → Option Addr × Nat) (l : List ME) : Prop :=
  ∀ x ∈ l, ∀ w vs, @PtsOf (nameS val sla) w x.ps vs → @SummV (nameS val sla) P x.f vs x.v0 x.bs w

theorem p1Of_val {I J : Syms} (h1 : I.val = J.val) (h2 : I.sla = J.sla) {w : World} {p : P1} {v : Value} (h : @P1Of I w p v) : @P1Of J w p v := by
  cases p with
  | av x =>
    have h : v = @conc I E0 x := h
    rw [conc_val (I := I) (J := J) h1 h2] at h
    exact h
  | em => exact h
  | sl s cs =>
    have h : SlOf w s v (@concs I E0 cs) := h
    rw [concs_val (I := I) (J := J) h1 h2] at h
    exact h

theorem p1sOf_val {I J : Syms} (h1 : I.val = J.val) (h2 : I.sla = J.sla) {w : World} : ∀ {ps : List P1} {vs : List Value}, @P1sOf I w ps vs → @P1sOf J w ps vs := by
  intro ps
  induction ps with
  | nil => intro vs h; exact h
  | cons p r ih => intro vs h; obtain ⟨v, us, q1, q2, q3⟩ := h; exact ⟨v, us, q1, p1Of_val h1 h2 q2, ih q3⟩

theorem ptOf_val {I J : Syms} (h1 : I.val = J.val) (h2 : I.sla = J.sla) {w : World} {p : Pt} {v : Value} (h : @PtOf I w p v) : @PtOf J w p v := by
  cases p with
  | one p => exact p1Of_val (p := p) h1 h2 h
  | ag ps => obtain ⟨vs, q1, q2⟩ := h; exact ⟨vs, q1, p1sOf_val h1 h2 q2⟩

theorem ptsOf_val {I J : Syms} (h1 : I.val = J.val) (h2 : I.sla = J.sla) {w : World} : ∀ {ps : List Pt} {vs : List Value}, @PtsOf I w ps vs → @PtsOf J w ps vs := by
  intro ps
  induction ps with
  | nil => intro vs h; exact h
  | cons p r ih => intro vs h; obtain ⟨v, us, q1, q2, q3⟩ := h; exact ⟨v, us, q1, ptOf_val h1 h2 q2, ih q3⟩

theorem mTabOK_sound {val : Nat → Int} {F : List Fact} (h : Holds val F) {sla : Nat → Option Addr × Nat} {l : List ME} (hl : l.all (meOK P) = true) (ht : MTabOK P val sla l) : @CallerOK (symsOf val F h sla) P (@mTab (symsOf val F h sla) l) :=
  @mTab_sound P (symsOf val F h sla) l hl fun x hx w vs hv => summV_val (I := nameS val sla) (J := symsOf val F h sla) rfl rfl (ht x hx w vs (ptsOf_val (I := symsOf val F h sla) (J := nameS val sla) rfl rfl hv))

/-- Calls of a table that make new memory, of arguments that lead to what was handed in: the function, its arguments, what it gives. -/
structure MO where
  f : FuncId
  args : List AV
  v0 : AV
  bs : List FB

noncomputable def mTabO (outs : List (Nat × List AV)) (l : List MO) : Caller := fun f args S =>
  match l.find? (fun x => bAnd (Nat.beq x.f f) (avEqs x.args args)) with
  | some x => match outsAt S 0 outs with
    | true => fN S.nx fun nx => layAll nx x.bs 0 S.hp fun h => fN (Nat.add nx x.bs.length) fun nx' => some (renT (fun b => Nat.add b nx) x.v0, ⟨nx', h⟩)
    | false => none
  | none => none

noncomputable def moOK (P : Program) (x : MO) : Bool := bAnd (bodyOK P x.f) (bAnd (flatT x.bs.length x.v0) (flats x.bs.length x.bs))

/-- The calls of such a table are so. -/
def MTabOKO (P : Program) (val : Nat → Int) (sla : Nat → Option Addr × Nat) (outs : List (Nat × List AV)) (l : List MO) : Prop := ∀ x ∈ l, RetM P x.f x.args outs sla val x.v0 x.bs

theorem mTabOKO_sound {val : Nat → Int} {F : List Fact} (h : Holds val F) {sla : Nat → Option Addr × Nat} {outs : List (Nat × List AV)} {l : List MO} (hl : l.all (moOK P) = true) (ht : MTabOKO P val sla outs l) : @CallerOK (symsOf val F h sla) P (mTabO outs l) := by
  letI I := symsOf val F h sla
  refine CallerOK.of ?_
  intro f args S v S' hc
  unfold mTabO at hc
  split at hc
  · rename_i x hx
    split at hc
    · rename_i hout
      have h1 := List.mem_of_find?_eq_some hx
      have h23 := List.find?_some hx
      obtain ⟨h2, h3⟩ := bAnd_true (a := Nat.beq x.f f) (b := avEqs x.args args) h23
      obtain rfl : x.f = f := Nat.eq_of_beq_eq_true h2
      obtain rfl := avEqs_sound _ _ h3
      have h4 := List.all_eq_true.1 hl x h1
      obtain ⟨h4, h5⟩ := bAnd_true (a := bodyOK P x.f) (b := bAnd (flatT x.bs.length x.v0) (flats x.bs.length x.bs)) h4
      obtain ⟨h5, h6⟩ := bAnd_true h5
      have hfr : S.nx ≤ S'.nx ∧ ∀ b, b < S.nx → blkOf S.hp b = none → blkOf S'.hp b = none := by
        have h' := hc
        rw [fN_eq] at h'
        exact layAll_fresh h' rfl
      refine ⟨bodyOK_spec h4, hfr.1, hfr.2, fun E A w hA hH _ => summV_gives h5 h6 hc hA hH ?_⟩
      have hO : @OutOK (nameS val sla) E w outs := by
        intro k o hk
        have := outsAt_sound hH outs 0 hout k o hk
        simp only [Nat.zero_add] at this
        refine ⟨this.1, fun hne i u hu => ?_, this.2.2⟩
        rw [this.2.1 hne i u hu, conc_val (I := symsOf val F h sla) (J := nameS val sla) rfl rfl]
      have h7 := ht x h1 E w hO
      rw [concs_val (I := nameS val sla) (J := symsOf val F h sla) rfl rfl] at h7
      exact summV_val (I := nameS val sla) (J := symsOf val F h sla) rfl rfl h7
    · cases hc
  · cases hc

/-- On a way, by plain tables and by such. -/
theorem leafOM {val : Nat → Int} {F : List Fact} (h : Holds val F) {sla : Nat → Option Addr × Nat} {orc : ∀ [Syms], Caller} {fuel : Nat} {f : FuncId} {args : List AV} {outs : List (Nat × List AV)} {tab : List (FuncId × List AV × AV)} {mt : List ME} (ho : ∀ [Syms], CallerOK P orc)
    (hmix : P.follows .mixedOrders = true) (ha : wfVs (· < outs.length) args) (hpl : outs.all plainO = true) (hb : tab.all (fun x => bodyOK P x.1) = true) (hp : tab.all (fun x => plain x.2.2 && plains x.2.1) = true) (ht : TabOK P val sla tab)
    (hl : mt.all (meOK P) = true) (hm : MTabOK P val sla mt)
    (hg : saysTrue (@runO (symsOf val F h sla) P (orElse (@orc (symsOf val F h sla)) (orElse (tabO tab) (@mTab (symsOf val F h sla) mt))) fuel f args outs) = true) : LawO P f args outs sla val :=
  lawO_of h (@orElse_sound P (symsOf val F h sla) _ _ (@ho (symsOf val F h sla)) (@orElse_sound P (symsOf val F h sla) _ _ (tabOK_sound h hb hp ht) (mTabOK_sound h hl hm))) hmix ha hpl hg

end

/-! An expression without a name. -/

noncomputable def noA (j : Nat) (x : SX) : Bool :=
  SX.rec (motive := fun _ => Bool) (fun _ => true) (fun k => !Nat.beq k j) (fun _ _ i => i) (fun _ _ i k => bAnd i k) (fun _ _ i k => bAnd i k) (fun _ _ i k => bAnd i k) (fun _ _ i => i) (fun _ _ i => i) (fun _ _ i => i) (fun _ _ i => i)
    (fun _ _ _ i k => bAnd i k) (fun _ _ _ i k => bAnd i k) (fun _ _ _ i k => bAnd i k) (fun k _ i => bAnd (Nat.blt j k) i) (fun _ _ i => i) x

noncomputable def noB (j : Nat) (b : SB) : Bool :=
  SB.rec (motive := fun _ => Bool) true true (fun x y => bAnd (noA j x) (noA j y)) (fun x y => bAnd (noA j x) (noA j y)) (fun x y => bAnd (noA j x) (noA j y)) (fun _ i => i) (fun _ _ i k => bAnd i k) (fun _ _ i k => bAnd i k) b

noncomputable def noF (j : Nat) : Fact → Bool
  | .is x _ => noA j x
  | .ne x _ => noA j x
  | .ge x _ => noA j x
  | .le x _ => noA j x
  | .at b _ => noB j b

def upd (val : Nat → Int) (j : Nat) (c : Int) : Nat → Int := fun k => if k = j then c else val k

theorem eval_upd (val : Nat → Int) (j : Nat) (c : Int) : ∀ x : SX, noA j x = true → x.eval (upd val j c) = x.eval val := by
  intro x
  induction x with
  | c n => intro _; rfl
  | a k =>
    intro h
    have h : (!Nat.beq k j) = true := h
    have hk : k ≠ j := fun e => by subst e; rw [show Nat.beq k k = true from Nat.beq_refl _] at h; cases h
    show (if k = j then c else val k) = val k
    rw [if_neg hk]
  | wrap k x i | shl x k i | shr x k i | quo x k i | rem x k i | tab k x i => intro h; simp only [SX.eval, i h]
  | add x y i k | sub x y i k | mul x y i k => intro h; have h' := bAnd_true h; simp only [SX.eval, i h'.1, k h'.2]
  | and q x y i k | or q x y i k | xor q x y i k => intro h; have h' := bAnd_true h; simp only [SX.eval, i h'.1, k h'.2]
  | «at» k x i =>
    intro h
    have h' := bAnd_true h
    have hk : j < k := Nat.le_of_ble_eq_true h'.1
    simp only [SX.eval, i h'.2]
    show (if k + _ = j then c else _) = _
    rw [if_neg (by omega)]

theorem evalB_upd (val : Nat → Int) (j : Nat) (c : Int) : ∀ b : SB, noB j b = true → b.eval (upd val j c) = b.eval val := by
  intro b
  induction b with
  | tt => intro _; rfl
  | ff => intro _; rfl
  | eq x y | lt x y | le x y => intro h; have h' := bAnd_true h; simp only [SB.eval, eval_upd val j c _ h'.1, eval_upd val j c _ h'.2]
  | not b i => intro h; simp only [SB.eval, i h]
  | and a b i k | or a b i k => intro h; have h' := bAnd_true h; simp only [SB.eval, i h'.1, k h'.2]

theorem holds_upd {val : Nat → Int} {F : List Fact} (j : Nat) (c : Int) (hn : F.all (noF j) = true) (h : Holds val F) : Holds (upd val j c) F := by
  intro f hf
  have h1 := h f hf
  have h2 := List.all_eq_true.1 hn f hf
  cases f with
  | is x n => show x.eval _ = n; rw [eval_upd val j c x h2]; exact h1
  | ne x n => show x.eval _ ≠ n; rw [eval_upd val j c x h2]; exact h1
  | ge x n => show n ≤ x.eval _; rw [eval_upd val j c x h2]; exact h1
  | le x n => show x.eval _ ≤ n; rw [eval_upd val j c x h2]; exact h1
  | «at» b v => show b.eval _ = v; rw [evalB_upd val j c b h2]; exact h1

theorem holds_append {val : Nat → Int} {F G : List Fact} (h : Holds val F) (h' : Holds val G) : Holds val (F ++ G) := fun f hf => (List.mem_append.1 hf).elim (h f) (h' f)

section
variable {P : Program}

/-- What calls give of what bears names, however far a slice reaches (its capacity's name: j), as a row of numbers. -/
def QC (P : Program) (G : (Nat → Option Addr × Nat) → Prop) (j : Nat) (n : Int) (outs : List (Nat × List AV)) (l : List (FuncId × List AV × List Sh)) (m : Nat) (R : List Int → Prop) (val : Nat → Int) : Prop :=
  ∃ Y : List Int, Y.length = m ∧ R Y ∧ ∀ (c : Int) sla, n ≤ c → G sla → ∀ x ∈ l, RetO P x.1 x.2.1 outs sla (upd val j c) (shV x.2.2 Y)

/-- The tables are so, however far the slice reaches. -/
def TabsC (P : Program) (G : (Nat → Option Addr × Nat) → Prop) (j : Nat) (n : Int) (tab : List (FuncId × List AV × AV)) (me : List ME) (val : Nat → Int) : Prop :=
  ∀ (c : Int) sla, n ≤ c → G sla → TabOK P (upd val j c) sla tab ∧ MTabOK P (upd val j c) sla me

theorem leafQC {val : Nat → Int} {F : List Fact} (h : Holds val F) {G : (Nat → Option Addr × Nat) → Prop} {j : Nat} {n : Int} {outs : List (Nat × List AV)} {tab : List (FuncId × List AV × AV)} {me : List ME} {l : List (FuncId × List AV × List Sh)} {m fuel : Nat} {R : List Int → Prop}
    (Y : List SX) (phi : List SX → SB) (hmix : P.follows .mixedOrders = true) (hpl : outs.all plainO = true) (hw : ∀ x ∈ l, wfVs (· < outs.length) x.2.1) (hb : tab.all (fun x => bodyOK P x.1) = true) (hp : tab.all (fun x => plain x.2.2 && plains x.2.1) = true) (hl : me.all (meOK P) = true)
    (ht : TabsC P G j n tab me val) (hn : F.all (noF j) = true) (hy : Y.all (noA j) = true) (hm : Y.length = m) (hphi : isTrue (decF F (phi Y)) = true) (hR : (phi Y).eval val = true → R (Y.map (SX.eval val)))
    (hg : ∀ (v : Nat → Int) (hG : Holds v (F ++ [.ge (.a j) n])) (sla : Nat → Option Addr × Nat), G sla → @givesO (symsOf v _ hG sla) P (orElse (tabO tab) (@mTab (symsOf v _ hG sla) me)) fuel outs Y l = true) : QC P G j n outs l m R val := by
  refine ⟨Y.map (SX.eval val), by rw [List.length_map, hm], hR (decF_sound h _ _ (isTrue_iff hphi)), fun c sla hc hsla x hx => ?_⟩
  have hu := holds_upd j c hn h
  have hG : Holds (upd val j c) (F ++ [.ge (.a j) n]) := holds_append hu (fun f hf => by
    simp only [List.mem_singleton] at hf
    subst hf
    show n ≤ upd val j c j
    unfold upd
    rw [if_pos rfl]
    exact hc)
  obtain ⟨t1, t2⟩ := ht c sla hc hsla
  have hY : Y.map (SX.eval (upd val j c)) = Y.map (SX.eval val) := by
    apply List.map_congr_left
    intro y hy'
    exact eval_upd val j c y (List.all_eq_true.1 hy y hy')
  have := retO_all hG (sla := sla) (@orElse_sound P (symsOf (upd val j c) _ hG sla) _ _ (tabOK_sound hG hb hp t1) (mTabOK_sound hG hl t2)) hmix hpl l hw (hg _ hG sla hsla) x hx
  rw [hY] at this
  exact this

/-- What calls give, with memory of their own. -/
def QM (P : Program) (G : (Nat → Option Addr × Nat) → Prop) (j : Nat) (n : Int) (outs : List (Nat × List AV)) (l : List (FuncId × List AV × AV × List FB)) (val : Nat → Int) : Prop :=
  ∀ (c : Int) sla, n ≤ c → G sla → ∀ x ∈ l, RetM P x.1 x.2.1 outs sla (upd val j c) x.2.2.1 x.2.2.2

noncomputable def fitsL [Syms] (P : Program) (orc : Caller) (fuel : Nat) (outs : List (Nat × List AV)) : List (FuncId × List AV × AV × List FB) → List (List Nat) → Bool
  | [], [] => true
  | x :: r, ids :: s => bAnd (fitsS (runO P orc fuel x.1 x.2.1 outs) ids x.2.2.1 x.2.2.2) (fitsL P orc fuel outs r s)
  | _, _ => false

theorem fitsL_mem [Syms] {orc : Caller} {fuel : Nat} {outs : List (Nat × List AV)} : ∀ {l : List (FuncId × List AV × AV × List FB)} {s : List (List Nat)}, fitsL P orc fuel outs l s = true → ∀ x ∈ l, ∃ ids, fitsS (runO P orc fuel x.1 x.2.1 outs) ids x.2.2.1 x.2.2.2 = true := by
  intro l
  induction l with
  | nil => intro s _ x hx; cases hx
  | cons y r ih =>
    intro s h x hx
    cases s with
    | nil => cases h
    | cons ids s =>
      have h' : bAnd (fitsS (runO P orc fuel y.1 y.2.1 outs) ids y.2.2.1 y.2.2.2) (fitsL P orc fuel outs r s) = true := h
      rcases List.mem_cons.1 hx with rfl | hx
      · exact ⟨ids, (bAnd_true h').1⟩
      · exact ih (bAnd_true h').2 x hx

theorem leafQM {val : Nat → Int} {F : List Fact} (h : Holds val F) {G : (Nat → Option Addr × Nat) → Prop} {j : Nat} {n : Int} {outs : List (Nat × List AV)} {tab : List (FuncId × List AV × AV)} {me : List ME} {l : List (FuncId × List AV × AV × List FB)} {fuel : Nat}
    (ids : List (List Nat)) (hmix : P.follows .mixedOrders = true) (hpl : outs.all plainO = true) (hw : ∀ x ∈ l, wfVs (· < outs.length) x.2.1) (hb : tab.all (fun x => bodyOK P x.1) = true) (hp : tab.all (fun x => plain x.2.2 && plains x.2.1) = true) (hl : me.all (meOK P) = true)
    (ht : TabsC P G j n tab me val) (hn : F.all (noF j) = true)
    (hg : ∀ (v : Nat → Int) (hG : Holds v (F ++ [.ge (.a j) n])) (sla : Nat → Option Addr × Nat), G sla → @fitsL (symsOf v _ hG sla) P (orElse (tabO tab) (@mTab (symsOf v _ hG sla) me)) fuel outs l ids = true) : QM P G j n outs l val := by
  intro c sla hc hsla x hx
  have hu := holds_upd j c hn h
  have hG : Holds (upd val j c) (F ++ [.ge (.a j) n]) := holds_append hu (fun f hf => by
    simp only [List.mem_singleton] at hf
    subst hf
    show n ≤ upd val j c j
    unfold upd
    rw [if_pos rfl]
    exact hc)
  obtain ⟨t1, t2⟩ := ht c sla hc hsla
  obtain ⟨is, hfit⟩ := @fitsL_mem P (symsOf (upd val j c) _ hG sla) _ _ _ _ _ (hg _ hG sla hsla) x hx
  exact retM_of hG (sla := sla) (@orElse_sound P (symsOf (upd val j c) _ hG sla) _ _ (tabOK_sound hG hb hp t1) (mTabOK_sound hG hl t2)) hmix (hw x hx) hpl hfit

/-- The same, said in other words. -/
theorem summV_congr {I J : Syms} {f : FuncId} {vs : List Value} {v0 v0' : AV} {bs bs' : List FB} {w : World} (hv : ∀ E, @conc I E v0 = @conc J E v0') (hlen : bs.length = bs'.length)
    (hb : ∀ (k : Nat) (fb fb' : FB), bs[k]? = some fb → bs'[k]? = some fb' → fb.elem = fb'.elem ∧ fb.grown = fb'.grown ∧ fb.s = fb'.s ∧ ∀ E, @concs I E fb.cells = @concs J E fb'.cells) (h : @SummV I P f vs v0 bs w) : @SummV J P f vs v0' bs' w := by
  refine Calls.mono h fun e w' he => ?_
  obtain ⟨E, he, s1, s2, s3⟩ := he
  refine ⟨E, by rw [← hv]; exact he, fun k fb' hk' => ?_, fun k k' h1 h2 => s2 k k' (by omega) (by omega), s3⟩
  obtain ⟨fb, hk⟩ : ∃ fb, bs[k]? = some fb := ⟨_, List.getElem?_eq_getElem (by have := (List.getElem?_eq_some_iff.1 hk').1; omega)⟩
  obtain ⟨b1, b2, b3, b4⟩ := hb k fb fb' hk hk'
  obtain ⟨⟨c, c1, c2, c3⟩, c4⟩ := s1 k fb hk
  have hl : fb.cells.length = fb'.cells.length := by
    have := congrArg List.length (b4 E)
    rw [@concs_eq I, @concs_eq J, List.length_map, List.length_map] at this
    exact this
  refine ⟨⟨c, by rw [← b1]; exact c1, fun i v hi => ?_, fun hg => ?_⟩, c4⟩
  · have e1 : (@concs J E fb'.cells)[i]? = some (@conc J E v) := by rw [@concs_eq J, List.getElem?_map, hi]; rfl
    rw [← b4 E, @concs_eq I, List.getElem?_map] at e1
    cases hu : fb.cells[i]? with
    | none => rw [hu] at e1; cases e1
    | some u =>
      rw [hu] at e1
      have e2 : @conc I E u = @conc J E v := Option.some.inj e1
      rw [← e2]
      exact c2 i u hu
  · rw [← b3, ← hl]; exact c3 (by rw [b2]; exact hg)

/-- A call that gives a plain value. -/
theorem summV_plain [Syms] {f : FuncId} {vs : List Value} {v0 : AV} {v : Value} {w : World} (hv : v = conc E0 v0) (h : Calls P f vs.toArray w fun e w' => e = .returned v ∧ RowKit.Below w.heap.size w w') : SummV P f vs v0 [] w := by
  refine Calls.mono h fun e w' he => ?_
  exact ⟨E0, by rw [he.1, hv], fun k fb hk => by simp at hk, fun k k' hk => by simp at hk, he.2⟩

end

/-! Facts of names, and ways that they part, in few words. -/

abbrev tI (k : Nat) (n : Int) : Fact := .is (.a k) n
abbrev tN (k : Nat) (n : Int) : Fact := .ne (.a k) n
abbrev tE (j k : Nat) : Fact := .at (.eq (.a j) (.a k)) true
abbrev tD (j k : Nat) : Fact := .at (.eq (.a j) (.a k)) false

theorem by_eq {Q : Prop} {val : Nat → Int} {F : List Fact} (k : Nat) (n : Int) (hF : Holds val F) (y : Holds val (tI k n :: F) → Q) (z : Holds val (tN k n :: F) → Q) : Q :=
  by_split (.eq (.a k) (.c n)) hF y z

theorem by_e2 {Q : Prop} {val : Nat → Int} {F : List Fact} (j k : Nat) (hF : Holds val F) (y : Holds val (tE j k :: F) → Q) (z : Holds val (tD j k :: F) → Q) : Q :=
  by_split (.eq (.a j) (.a k)) hF y z

/-! Bools and numbers. -/

theorem concC (I : Syms) (E : Env) (n : Int) : @conc I E (.v (.int .i64 n)) = .int .i64 n := by simp only [conc]

end Go.Sim
