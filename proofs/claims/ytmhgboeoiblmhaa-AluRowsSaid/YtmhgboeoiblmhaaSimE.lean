/-
  A call at a state that is known whole: it is run once, in a declaration of its own; what it leaves behind may be forgotten.
-/
import Derived.Test.YtmhgboeoiblmhaaSim
namespace Go.Sim

noncomputable def optEqL (x y : Option (List AV)) : Bool :=
  match x, y with
  | none, none => true
  | some a, some b => avEqs a b
  | _, _ => false

theorem optEqL_sound {x y : Option (List AV)} (h : optEqL x y = true) : x = y := by
  unfold optEqL at h
  split at h
  · rfl
  · rw [avEqs_sound _ _ h]
  · cases h

noncomputable def trEqL (t : Tr (List AV)) : Tr (List AV) → Bool :=
  Tr.rec (motive := fun _ => Tr (List AV) → Bool) (fun u => match u with | .nil => true | .nd _ _ _ => false)
    (fun _ x _ il ir u => match u with | .nil => false | .nd l y r => bAnd (optEqL x y) (bAnd (il l) (ir r))) t

theorem trEqL_sound : ∀ (t u : Tr (List AV)), trEqL t u = true → t = u := by
  intro t
  induction t with
  | nil => intro u h; cases u with
    | nil => rfl
    | nd _ _ _ => cases h
  | nd l x r ihl ihr => intro u h; cases u with
    | nil => cases h
    | nd l' y r' =>
      have h' : bAnd (optEqL x y) (bAnd (trEqL l l') (trEqL r r')) = true := h
      obtain ⟨h1, h2⟩ := bAnd_true h'
      obtain ⟨h2, h3⟩ := bAnd_true h2
      rw [ihl _ h2, ihr _ h3, optEqL_sound h1]

noncomputable def blkEq (B C : Blk) : Bool := bAnd (Nat.beq B.n C.n) (bAnd (Nat.beq B.elem C.elem) (bAnd (B.grown == C.grown) (bAnd (Nat.beq B.s C.s) (trEqL B.ch C.ch))))

theorem blkEq_sound {B C : Blk} (h : blkEq B C = true) : B = C := by
  obtain ⟨h1, h⟩ := bAnd_true h
  obtain ⟨h2, h⟩ := bAnd_true h
  obtain ⟨h3, h⟩ := bAnd_true h
  obtain ⟨h4, h5⟩ := bAnd_true h
  have e1 := Nat.eq_of_beq_eq_true h1
  have e2 := Nat.eq_of_beq_eq_true h2
  have e3 := eq_of_beq h3
  have e4 := Nat.eq_of_beq_eq_true h4
  have e5 := trEqL_sound _ _ h5
  cases B; cases C
  simp only at e1 e2 e3 e4 e5
  rw [e1, e2, e3, e4, e5]

noncomputable def optEqB (x y : Option (Option Blk)) : Bool :=
  match x, y with
  | none, none => true
  | some none, some none => true
  | some (some B), some (some C) => blkEq B C
  | _, _ => false

theorem optEqB_sound {x y : Option (Option Blk)} (h : optEqB x y = true) : x = y := by
  unfold optEqB at h
  split at h
  · rfl
  · rfl
  · rw [blkEq_sound h]
  · cases h

noncomputable def trEqB (t : Tr (Option Blk)) : Tr (Option Blk) → Bool :=
  Tr.rec (motive := fun _ => Tr (Option Blk) → Bool) (fun u => match u with | .nil => true | .nd _ _ _ => false)
    (fun _ x _ il ir u => match u with | .nil => false | .nd l y r => bAnd (optEqB x y) (bAnd (il l) (ir r))) t

theorem trEqB_sound : ∀ (t u : Tr (Option Blk)), trEqB t u = true → t = u := by
  intro t
  induction t with
  | nil => intro u h; cases u with
    | nil => rfl
    | nd _ _ _ => cases h
  | nd l x r ihl ihr => intro u h; cases u with
    | nil => cases h
    | nd l' y r' =>
      have h' : bAnd (optEqB x y) (bAnd (trEqB l l') (trEqB r r')) = true := h
      obtain ⟨h1, h2⟩ := bAnd_true h'
      obtain ⟨h2, h3⟩ := bAnd_true h2
      rw [ihl _ h2, ihr _ h3, optEqB_sound h1]

noncomputable def subX (x y : Option (Option Blk)) : Bool :=
  match x with
  | some (some B) => match y with
    | some (some C) => blkEq B C
    | _ => false
  | _ => true

/-- Are the blocks of the one among the other's? -/
noncomputable def subTr (t : Tr (Option Blk)) : Tr (Option Blk) → Bool :=
  Tr.rec (motive := fun _ => Tr (Option Blk) → Bool) (fun _ => true)
    (fun _ x _ il ir u => match u with | .nil => false | .nd l y r => bAnd (subX x y) (bAnd (il l) (ir r))) t

theorem subTr_get : ∀ (t u : Tr (Option Blk)), subTr t u = true → ∀ (k : Nat) (B : Blk), t.get k = some (some B) → u.get k = some (some B) := by
  intro t
  induction t with
  | nil => intro u _ k B hk; rw [Tr.get_nil] at hk; cases hk
  | nd l x r ihl ihr => intro u h k B hk; cases u with
    | nil => cases h
    | nd l' y r' =>
      have h' : bAnd (subX x y) (bAnd (subTr l l') (subTr r r')) = true := h
      obtain ⟨h1, h2⟩ := bAnd_true h'
      obtain ⟨h2, h3⟩ := bAnd_true h2
      rw [Tr.get_nd] at hk ⊢
      split at hk
      · rename_i hk0
        simp only [hk0, if_true]
        subst hk
        unfold subX at h1
        split at h1
        · rename_i B' hB
          cases hB
          split at h1
          · rw [blkEq_sound h1]
          · cases h1
        · rename_i hn
          exact absurd rfl (hn B)
      · rename_i hk0
        simp only [hk0, if_false]
        split at hk
        · rename_i hk1
          simp only [hk1, if_true]
          exact ihl _ h2 _ _ hk
        · rename_i hk1
          simp only [hk1, if_false]
          exact ihr _ h3 _ _ hk

theorem subTr_sound {t u : Tr (Option Blk)} (h : subTr t u = true) (b : Nat) (B : Blk) (hb : blkOf t b = some B) : blkOf u b = some B := by
  unfold blkOf at hb
  split at hb
  · rename_i x hx
    cases hb
    unfold blkOf
    rw [subTr_get _ _ h _ _ hx]
  · cases hb

section
variable {P : Program}

/-- Less may be known behind a call. -/
theorem CallOK.less [Syms] {f : FuncId} {args : List AV} {S S1 : AS} {v : AV} {hp0 : Tr (Option Blk)} (h : CallOK P f args S v S1) (h1 : ∀ b B, blkOf hp0 b = some B → blkOf S1.hp b = some B)
    (h2 : ∀ b, b < S.nx → blkOf S.hp b = none → blkOf hp0 b = none) : CallOK P f args S v ⟨S1.nx, hp0⟩ := by
  obtain ⟨a1, a2, _, a4⟩ := h
  refine ⟨a1, a2, h2, fun E A w hA hH ha => (a4 E A w hA hH ha).mono fun e w' he => ?_⟩
  obtain ⟨E', rfl, g1, g2, g3, g4⟩ := he
  exact ⟨E', rfl, g1, g2, ⟨fun b B hb => g3.mem b B (h1 b B hb), fun b B hb => g3.blk b B (h1 b B hb), fun b B hb => g3.wf b B (h1 b B hb), fun b B hb => g3.spwf b B (h1 b B hb),
    fun b b' B B' x x' hb hb' => g3.spinj b b' B B' x x' (h1 _ _ hb) (h1 _ _ hb'), fun b b' B B' hb hb' => g3.inj b b' B B' (h1 _ _ hb) (h1 _ _ hb')⟩,
    ⟨g4.os, g4.tape, g4.output, g4.size, g4.frame, fun b B hb => g4.fresh b B (h1 _ _ hb), fun b B hb => g4.ro b B (h1 _ _ hb)⟩⟩

noncomputable def avEqU (u v : AV) : Bool :=
  match u, v with
  | .tup [], .tup [] => true
  | u, v => avEq u v

theorem avEqU_sound {u v : AV} (h : avEqU u v = true) : u = v := by
  unfold avEqU at h
  split at h
  · rfl
  · exact avEq_sound _ _ h

/-- A call of these arguments at this state. -/
noncomputable def exactO (f0 : FuncId) (pre : Option (List AV × AS)) (v : AV) (m : Nat) (keep : Bool) : Caller := fun f args S =>
  match Nat.beq f f0 with
  | true => match pre with
    | some p => match bAnd (Nat.beq S.nx p.2.nx) (bAnd (avEqs args p.1) (trEqB S.hp p.2.hp)) with
      | true => match keep with
        | true => some (v, ⟨m, S.hp⟩)
        | false => some (v, ⟨m, .nil⟩)
      | false => none
    | none => none
  | false => none

noncomputable def exactRun [Syms] (P : Program) (orc : Caller) (fuel : Nat) (f0 : FuncId) (pre : Option (List AV × AS)) (v : AV) (m : Nat) (keep : Bool) : Bool :=
  match pre with
  | some p => match callA P (exec P orc fuel false) f0 p.1 p.2 with
    | some r => bAnd (avEqU r.1 v) (bAnd (Nat.beq r.2.nx m) (match keep with | true => subTr p.2.hp r.2.hp | false => true))
    | none => false
  | none => false

theorem exact_sound [Syms] {orc : Caller} {fuel : Nat} {f0 : FuncId} {pre : Option (List AV × AS)} {v : AV} {m : Nat} {keep : Bool} (ho : CallerOK P orc) (hmix : P.follows .mixedOrders = true)
    (h : exactRun P orc fuel f0 pre v m keep = true) : CallerOK P (exactO f0 pre v m keep) := by
  intro f args S u S' hc
  unfold exactO at hc
  split at hc
  · rename_i hff
    obtain rfl : f = f0 := Nat.eq_of_beq_eq_true hff
    split at hc
    · rename_i p
      split at hc
      · rename_i hp
        obtain ⟨q1, q2⟩ := bAnd_true hp
        obtain ⟨q2, q3⟩ := bAnd_true q2
        have e1 := Nat.eq_of_beq_eq_true q1
        have e2 := avEqs_sound _ _ q2
        have e3 := trEqB_sound _ _ q3
        have eS : S = p.2 := by
          obtain ⟨p1, n, hp'⟩ := p
          cases S
          simp only at e1 e3
          rw [e1, e3]
        subst e2 eS
        unfold exactRun at h
        simp only at h
        split at h
        · rename_i r hr
          obtain ⟨r1, r2⟩ := bAnd_true h
          obtain ⟨r2, r3⟩ := bAnd_true r2
          have ev := avEqU_sound r1
          have em := Nat.eq_of_beq_eq_true r2
          have ck := callA_sound (exec_sound ho hmix fuel).1 f p.1 p.2 r.1 r.2 hr
          subst ev em
          split at hc
          · cases hc
            exact ck.less (fun b B hb => subTr_sound r3 b B hb) (fun _ _ hn => hn)
          · cases hc
            exact ck.less (fun b B hb => by cases hb) (fun _ _ _ => rfl)
        · cases h
      · cases hc
    · cases hc
  · cases hc

end

end Go.Sim
