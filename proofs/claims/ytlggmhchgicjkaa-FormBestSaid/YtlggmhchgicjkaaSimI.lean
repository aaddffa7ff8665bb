/-
  Structs with slices of structs of ints.
-/
import Derived.Test.YtlggmhchgicjkaaSimM
namespace Go.Sim

/-! A struct of an int and a slice of structs of ints, that was handed in. -/
open Go.ChangeShapes Go.WideShapes

/-- A slice of structs of ints, m to each, as it lies in memory. -/
def RowsIn (w : World) (m : Nat) (v : Value) : Prop :=
  v = .slice none 0 0 ∨ (∃ a cap, v = .slice (some a) 0 cap) ∨
  ∃ (b off len cap : Nat) (zs : List Int), 0 < len ∧ v = .slice (some ⟨b, off, none⟩) len cap ∧ len ≤ cap ∧ zs.length = len * m ∧ b < w.heap.size ∧
    (∀ (i : Nat) (n : Int), zs[i]? = some n → w.cell? ⟨b, off + i, none⟩ = some (.int .i64 n)) ∧ ∀ n ∈ zs, (Lit.int .i64 n).wf = true

section
variable {H : Type} {enc : TypeId × Value → H} {P : Program} {w : World} {base : Nat} {spare : Nat → Bool} {held : Bool}

theorem rows_in {t e : TypeId} {m : Nat} {ts : List TypeId} {fuel : Nat} {v : Value} {x : DataW H × List MemPlace} (ht : P.underlying t = some (.slice e)) (hc : P.cellsOf e = m) (hm : 0 < m) (hl : leaves P 9 e = some ts)
    (hts : ∀ t ∈ ts, P.underlying t = some (.int .i64)) (h : DataW.trod enc P w base spare held fuel t [v] = some x) : RowsIn w m v := by
  rcases DataW.trod_slice ht h with ⟨h0, _⟩ | ⟨a, len, cap, elems, rest, n, _, hcs, _, _, hlc, _, hlen, hel, _, _⟩
  · simp only [List.cons.injEq, and_true] at h0
    exact .inl h0
  · simp only [List.cons.injEq, and_true] at hcs
    subst hcs
    by_cases h0 : len = 0
    · subst h0; exact .inr (.inl ⟨a, cap, rfl⟩)
    have each : ∀ i, ∃ l : List Int, i < len → l.length = m ∧ (∀ j, j < m → w.cell? ((a.add (i * m)).add j) = some (.int .i64 (l.getD j 0))) ∧ ∀ n ∈ l, (Lit.int .i64 n).wf = true := by
      intro i
      by_cases hi : i < len
      · have hy : elems[i]? = some (elems[i]'(by omega)) := List.getElem?_eq_getElem (by omega)
        have he := hel i hi
        rw [hy, hc, Option.bind_eq_some_iff] at he
        obtain ⟨cs, h1, h2⟩ := he
        obtain ⟨l, k1, k2, k3⟩ := ints_read (leaves_read 9 _ _ _ _ _ h2 hl) hts
        obtain ⟨_, g2, g3⟩ := World.cells?_some h1
        have hlm : l.length = m := by rw [← g2, k2, List.length_map]
        refine ⟨l, fun _ => ⟨hlm, fun j hj => ?_, k3⟩⟩
        have := g3 j hj
        rw [this, k2, List.getElem?_map, List.getD_eq_getElem?_getD, List.getElem?_eq_getElem (by omega)]
        rfl
      · exact ⟨[], fun h => absurd h hi⟩
    obtain ⟨g, hg⟩ : ∃ g : Nat → List Int, ∀ i, i < len → (g i).length = m ∧ (∀ j, j < m → w.cell? ((a.add (i * m)).add j) = some (.int .i64 ((g i).getD j 0))) ∧ ∀ n ∈ g i, (Lit.int .i64 n).wf = true :=
      ⟨fun i => Classical.choose (each i), fun i => Classical.choose_spec (each i)⟩
    have hc0 := (hg 0 (by omega)).2.1 0 hm
    have e0 : ∀ a : Addr, a.add 0 = a := fun a => by simp [Addr.add]
    rw [Nat.zero_mul, e0, e0] at hc0
    obtain ⟨b, off, rfl, hb⟩ := cell_addr hc0
    have hz : ∀ (i : Nat) (n : Int), ((List.range (len * m)).map fun i => (g (i / m)).getD (i % m) 0)[i]? = some n → i < len * m ∧ n = (g (i / m)).getD (i % m) 0 := by
      intro i n hi
      rw [List.getElem?_map] at hi
      by_cases hil : i < len * m
      · rw [List.getElem?_range hil] at hi
        exact ⟨hil, (Option.some.inj hi).symm⟩
      · rw [List.getElem?_eq_none (by simp; omega)] at hi
        cases hi
    refine .inr (.inr ⟨b, off, len, cap, (List.range (len * m)).map fun i => (g (i / m)).getD (i % m) 0, by omega, rfl, hlc, by simp, hb, fun i n hi => ?_, fun n hn => ?_⟩)
    · obtain ⟨h1, rfl⟩ := hz i n hi
      have h2 : i / m < len := (Nat.div_lt_iff_lt_mul hm).2 h1
      have := (hg (i / m) h2).2.1 (i % m) (Nat.mod_lt _ hm)
      rw [Addr.add_lit, Addr.add_lit] at this
      have e : off + i / m * m + i % m = off + i := by rw [Nat.add_assoc, Nat.div_add_mod' i m]
      rw [e] at this
      exact this
    · obtain ⟨i, hi⟩ := List.getElem?_of_mem hn
      obtain ⟨h1, rfl⟩ := hz i n hi
      have h2 : i / m < len := (Nat.div_lt_iff_lt_mul hm).2 h1
      obtain ⟨k1, _, k3⟩ := hg (i / m) h2
      apply k3
      rw [List.getD_eq_getElem?_getD, List.getElem?_eq_getElem (by rw [k1]; exact Nat.mod_lt _ hm)]
      exact List.getElem_mem _

/-- A struct of an int and such a slice. -/
theorem ins_read {cs : List Value} {ti t e : TypeId} {m : Nat} {ts : List TypeId} (h : CellsRead enc P w base spare held cs [ti, t]) (hi : P.underlying ti = some (.int .i64)) (ht : P.underlying t = some (.slice e)) (hc : P.cellsOf e = m) (hm : 0 < m) (hl : leaves P 9 e = some ts)
    (hts : ∀ t ∈ ts, P.underlying t = some (.int .i64)) : ∃ op s, cs = [.int .i64 op, s] ∧ (Lit.int .i64 op).wf = true ∧ RowsIn w m s := by
  obtain ⟨h1, h2⟩ := h
  match cs, h1, h2 with
  | [c, s], _, h2 =>
    obtain ⟨f1, y1, k1⟩ := h2 0 c ti rfl rfl
    obtain ⟨f2, y2, k2⟩ := h2 1 s t rfl rfl
    obtain ⟨n, rfl, hn⟩ := cell_int hi k1
    exact ⟨n, s, rfl, hn, rows_in ht hc hm hl hts k2⟩

end

/-! Calls of functions out of a row, of which the place is not known, by a table. -/

/-- A function out of a row: its number, what stands in the boxes that it holds. -/
structure PD where
  f : FuncId
  ns : List Int

noncomputable def capIs (S : AS) (n : Int) : AV → Bool
  | .ptr b off => match blkOf S.hp b with
    | some B => match isOwn B, readCells B off 1 with
      | true, some l => avEqs l [.v (.int .i64 n)]
      | _, _ => false
    | none => false
  | _ => false

noncomputable def capsAre (S : AS) : List Int → List AV → Bool
  | [], [] => true
  | n :: r, y :: s => bAnd (capIs S n y) (capsAre S r s)
  | _, _ => false

noncomputable def clIs (S : AS) (d : PD) : AV → Bool
  | .v (.func (.func g) a c) => bAnd (Nat.beq g d.f) (bAnd (emptyA a) (bAnd (emptyA c) (match d.ns with | [] => true | _ => false)))
  | .fn (.func g) first capt => match first with
    | [] => bAnd (Nat.beq g d.f) (capsAre S d.ns capt)
    | _ => false
  | _ => false

noncomputable def clsAre (S : AS) : List PD → List AV → Bool
  | [], [] => true
  | d :: r, y :: s => bAnd (clIs S d y) (clsAre S r s)
  | _, _ => false

noncomputable def pkO [Syms] (D : List PD) (tab : List (SB × SX × List AV × AV)) : Caller := fun f args S =>
  match Nat.beq f pT, args with
  | true, .pick l x :: as => match tab.find? (fun e => bAnd (isTrue (Syms.dec e.1)) (bAnd (sxEq e.2.1 x) (avEqs e.2.2.1 as))) with
    | some e => match Syms.dec (.le (.c 0) x), Syms.dec (.lt x (.c (Int.ofNat D.length))), clsAre S D l with
      | some true, some true, true => some (e.2.2.2, S)
      | _, _, _ => none
    | none => none
  | _, _ => none

/-- What a call of one of them gives, whatever world, if this holds. -/
def PkQ (P : Program) (D : List PD) (val : Nat → Int) (sla : Nat → Option Addr × Nat) (e : SB × SX × List AV × AV) : Prop :=
  e.1.eval val = true → ∀ d, D[(e.2.1.eval val).toNat]? = some d → ∀ (w : World) (ads : List Addr), ads.length = d.ns.length → (∀ (i : Nat) (a : Addr) (n : Int), ads[i]? = some a → d.ns[i]? = some n → w.cell? a = some (.int .i64 n)) →
    Calls P d.f ((@concs (nameS val sla) E0 e.2.2.1) ++ ads.map (fun a => Value.pointer (some a))).toArray w fun e' w' => e' = .returned (@conc (nameS val sla) E0 e.2.2.2) ∧ RowKit.Below w.heap.size w w'

section
variable {E : Env} {A : Nat → Prop} {w : World}

theorem capsAre_sound [Syms] {S : AS} (hH : HRel E A (blkOf S.hp) w) : ∀ {ns : List Int} {ys : List AV}, capsAre S ns ys = true →
    ∃ ads : List Addr, ads.length = ns.length ∧ (∀ (i : Nat) (a : Addr) (n : Int), ads[i]? = some a → ns[i]? = some n → w.cell? a = some (.int .i64 n)) ∧ concs E ys = ads.map (fun a => Value.pointer (some a)) := by
  intro ns
  induction ns with
  | nil =>
    intro ys h
    cases ys with
    | nil => exact ⟨[], rfl, fun i a n hi => by simp at hi, rfl⟩
    | cons _ _ => cases h
  | cons n r ih =>
    intro ys h
    cases ys with
    | nil => cases h
    | cons y s =>
      have h' : bAnd (capIs S n y) (capsAre S r s) = true := h
      obtain ⟨h1, h2⟩ := bAnd_true h'
      obtain ⟨ads, g1, g2, g3⟩ := ih h2
      unfold capIs at h1
      split at h1
      · rename_i b off
        split at h1
        · rename_i B hb
          split at h1
          · rename_i l ho hl
            obtain ⟨_, _, q3⟩ := hH.cells hb (isOwn_iff.1 ho) hl
            obtain rfl := avEqs_sound _ _ h1
            refine ⟨⟨E.ρ b, off, none⟩ :: ads, by simp [g1], fun i a m hi hm => ?_, by simp [concs, conc, g3]⟩
            cases i with
            | zero =>
              simp only [List.getElem?_cons_zero, Option.some.injEq] at hi hm
              subst hi hm
              have := q3 0 _ rfl
              rw [add_lit] at this
              exact this
            | succ i => exact g2 i a m (by simpa using hi) (by simpa using hm)
          · cases h1
        · cases h1
      · cases h1

theorem clsAre_sound [Syms] {S : AS} (hH : HRel E A (blkOf S.hp) w) : ∀ {D : List PD} {l : List AV}, clsAre S D l = true → l.length = D.length ∧ ∀ (k : Nat) (d : PD), D[k]? = some d →
    ∃ ads : List Addr, ads.length = d.ns.length ∧ (∀ (i : Nat) (a : Addr) (n : Int), ads[i]? = some a → d.ns[i]? = some n → w.cell? a = some (.int .i64 n)) ∧
      (concs E l)[k]? = some (.func (.func d.f) #[] (ads.map (fun a => Value.pointer (some a))).toArray) := by
  intro D
  induction D with
  | nil =>
    intro l h
    cases l with
    | nil => exact ⟨rfl, fun k d hk => by simp at hk⟩
    | cons _ _ => cases h
  | cons d r ih =>
    intro l h
    cases l with
    | nil => cases h
    | cons y s =>
      have h' : bAnd (clIs S d y) (clsAre S r s) = true := h
      obtain ⟨h1, h2⟩ := bAnd_true h'
      obtain ⟨g1, g2⟩ := ih h2
      refine ⟨by simp [g1], fun k e hk => ?_⟩
      cases k with
      | succ k => exact g2 k e (by simpa using hk)
      | zero =>
        simp only [List.getElem?_cons_zero, Option.some.injEq] at hk
        subst hk
        unfold clIs at h1
        split at h1
        · rename_i g a c
          obtain ⟨k1, k2⟩ := bAnd_true h1
          obtain ⟨k2, k3⟩ := bAnd_true k2
          obtain ⟨k3, k4⟩ := bAnd_true k3
          obtain rfl := emptyA_sound k2
          obtain rfl := emptyA_sound k3
          obtain rfl : g = d.f := Nat.eq_of_beq_eq_true k1
          have hn : d.ns = [] := by
            revert k4
            cases d.ns with
            | nil => intro _; rfl
            | cons _ _ => intro h; cases h
          rw [hn]
          exact ⟨[], rfl, fun i a n hi => by simp at hi, by simp [concs, conc]⟩
        · rename_i g first capt
          split at h1
          · obtain ⟨k1, k2⟩ := bAnd_true h1
            obtain rfl : g = d.f := Nat.eq_of_beq_eq_true k1
            obtain ⟨ads, q1, q2, q3⟩ := capsAre_sound hH k2
            exact ⟨ads, q1, q2, by simp [concs, conc, q3]⟩
          · cases h1
        · cases h1

end

section
variable {P : Program}

theorem pkO_sound {val : Nat → Int} {F : List Fact} (h : Holds val F) {sla : Nat → Option Addr × Nat} {D : List PD} {tab : List (SB × SX × List AV × AV)} (hD : D.all (fun d => bodyOK P d.f) = true)
    (hp : tab.all (fun x => plain x.2.2.2 && plains x.2.2.1) = true) (ht : ∀ e ∈ tab, PkQ P D val sla e) : @CallerOK (symsOf val F h sla) P (@pkO (symsOf val F h sla) D tab) := by
  letI I := symsOf val F h sla
  intro f args S v S' hc
  unfold pkO at hc
  split at hc
  · rename_i l x as hf
    obtain rfl : f = pT := Nat.eq_of_beq_eq_true hf
    split at hc
    · rename_i e he
      split at hc
      · rename_i hge hlt hcl
        cases hc
        have h1 := List.mem_of_find?_eq_some he
        have h23 := List.find?_some he
        obtain ⟨hgd, h23⟩ := bAnd_true (a := isTrue (Syms.dec e.1)) (b := bAnd (sxEq e.2.1 x) (avEqs e.2.2.1 as)) h23
        have hgd : e.1.eval val = true := Syms.decOK _ _ (isTrue_iff hgd)
        obtain ⟨h2, h3⟩ := bAnd_true (a := sxEq e.2.1 x) (b := avEqs e.2.2.1 as) h23
        obtain rfl := sxEq_sound _ _ h2
        obtain rfl := avEqs_sound _ _ h3
        have h5 := List.all_eq_true.1 hp e h1
        simp only [Bool.and_eq_true] at h5
        have hlt := Syms.decOK _ _ hlt
        simp only [SB.eval, SX.eval] at hlt
        have hlt : e.2.1.eval val < ((D.length : Nat) : Int) := of_decide_eq_true hlt
        have hge := Syms.decOK _ _ hge
        simp only [SB.eval, SX.eval] at hge
        have hge : 0 ≤ e.2.1.eval val := of_decide_eq_true hge
        refine .inr ⟨rfl, l, e.2.1, e.2.2.1, rfl, Nat.le_refl _, fun b _ hn => hn, fun E A w hA hH _ => ?_⟩
        obtain ⟨g1, g2⟩ := clsAre_sound hH hcl
        have hk : (e.2.1.eval val).toNat < D.length := by omega
        obtain ⟨ads, q1, q2, q3⟩ := g2 _ _ (List.getElem?_eq_getElem hk)
        refine ⟨D[(e.2.1.eval val).toNat].f, #[], (ads.map (fun a => Value.pointer (some a))).toArray, ?_, bodyOK_spec (List.all_eq_true.1 hD _ (List.getElem_mem hk)), ?_⟩
        · simp only [conc, pickV, List.getD_eq_getElem?_getD]
          show oneC ((concs E l)[(e.2.1.eval val).toNat]?.getD _) = _
          rw [q3]
          rfl
        · have h6 := ht e h1 hgd _ (List.getElem?_eq_getElem hk) w ads q1 q2
          rw [concs_val (I := nameS val sla) (J := symsOf val F h sla) rfl rfl, conc_val (I := nameS val sla) (J := symsOf val F h sla) rfl rfl, plain_conc (E := E0) (E' := E) _ h5.1, plains_conc (E := E0) (E' := E) _ h5.2] at h6
          have e1 : (#[] ++ (concs E e.2.2.1).toArray ++ (ads.map (fun a => Value.pointer (some a))).toArray) = (concs E e.2.2.1 ++ ads.map (fun a => Value.pointer (some a))).toArray := by simp
          rw [e1]
          exact h6.mono fun e' w' he => ⟨E, he.1, gives_below hH (plain_wf _ h5.1) he.2⟩
      · cases hc
    · cases hc
  · cases hc

end

/-! What calls give of what bears names, by known calls of all kinds; of all values of the names but those that the answer hangs on. -/

/-- A call of a struct that was handed in, known whole, and of a value by a pattern. -/
structure XE where
  f : FuncId
  a : AV
  p : Pt
  v : AV

noncomputable def xTab [Syms] (outs : List (Nat × List AV)) (l : List XE) : Caller := fun f args S =>
  match args with
  | [a, y] => match l.find? (fun e => bAnd (Nat.beq e.f f) (bAnd (avEq e.a a) (mtP S e.p y))) with
    | some e => match outsAt S 0 outs with
      | true => some (e.v, S)
      | false => none
    | none => none
  | _ => none

def XeQ (P : Program) (outs : List (Nat × List AV)) (val : Nat → Int) (sla : Nat → Option Addr × Nat) (e : XE) : Prop :=
  ∀ (E : Env) (w : World) (y : Value), @OutOK (nameS val sla) E w outs → @PtOf (nameS val sla) w e.p y →
    Calls P e.f #[@conc (nameS val sla) E e.a, y] w fun e' w' => e' = .returned (@conc (nameS val sla) E0 e.v) ∧ RowKit.Below w.heap.size w w'

/-- Calls of a table, where this holds. -/
noncomputable def tabG [Syms] (l : List (SB × FuncId × List AV × AV)) : Caller := fun f args S =>
  match l.find? (fun x => bAnd (isTrue (Syms.dec x.1)) (bAnd (Nat.beq x.2.1 f) (avEqs x.2.2.1 args))) with
  | some x => some (x.2.2.2, S)
  | none => none

def TabGK (P : Program) (val : Nat → Int) (sla : Nat → Option Addr × Nat) (l : List (SB × FuncId × List AV × AV)) : Prop := ∀ x ∈ l, x.1.eval val = true → Ret P x.2.1 (@concs (nameS val sla) E0 x.2.2.1) (@conc (nameS val sla) E0 x.2.2.2)

/-- Known calls: by what they are given; by what they are given, with what was handed in; by patterns; of functions out of a row; by both. -/
structure Tb where
  tab : List (FuncId × List AV × AV)
  tg : List (SB × FuncId × List AV × AV)
  outs : List (Nat × List AV)
  to : List (FuncId × List AV × AV)
  me : List ME
  D : List PD
  pk : List (SB × SX × List AV × AV)
  xe : List XE

structure TbOK (P : Program) (val : Nat → Int) (sla : Nat → Option Addr × Nat) (T : Tb) : Prop where
  tab : TabOK P val sla T.tab
  tg : TabGK P val sla T.tg
  to : TabOKO P val sla T.outs T.to
  me : MTabOK P val sla T.me
  pk : ∀ e ∈ T.pk, PkQ P T.D val sla e
  xe : ∀ e ∈ T.xe, XeQ P T.outs val sla e

noncomputable def tbB (P : Program) (T : Tb) : Bool :=
  bAnd (T.tab.all (fun x => bodyOK P x.1)) (bAnd (T.tab.all (fun x => plain x.2.2 && plains x.2.1)) (bAnd (T.to.all (fun x => bodyOK P x.1)) (bAnd (T.to.all (fun x => plain x.2.2))
    (bAnd (T.me.all (meOK P)) (bAnd (T.D.all (fun d => bodyOK P d.f)) (bAnd (T.pk.all (fun x => plain x.2.2.2 && plains x.2.2.1)) (bAnd (T.xe.all (fun x => bodyOK P x.f)) (bAnd (T.xe.all (fun x => plain x.v)) (bAnd (T.tg.all (fun x => bodyOK P x.2.1)) (T.tg.all (fun x => plain x.2.2.2 && plains x.2.2.1)))))))))))

noncomputable def orcT [Syms] (T : Tb) : Caller := orElse (tabO T.tab) (orElse (tabG T.tg) (orElse (tabOO T.outs T.to) (orElse (mTab T.me) (orElse (pkO T.D T.pk) (xTab T.outs T.xe)))))

section
variable {P : Program}

theorem xTab_sound {val : Nat → Int} {F : List Fact} (h : Holds val F) {sla : Nat → Option Addr × Nat} {outs : List (Nat × List AV)} {l : List XE} (hb : l.all (fun x => bodyOK P x.f) = true) (hp : l.all (fun x => plain x.v) = true)
    (ht : ∀ e ∈ l, XeQ P outs val sla e) : @CallerOK (symsOf val F h sla) P (@xTab (symsOf val F h sla) outs l) := by
  letI I := symsOf val F h sla
  refine CallerOK.of ?_
  intro f args S v S' hc
  unfold xTab at hc
  split at hc
  · rename_i a y
    split at hc
    · rename_i e he
      split at hc
      · rename_i hout
        cases hc
        have h1 := List.mem_of_find?_eq_some he
        have h23 := List.find?_some he
        obtain ⟨h2, h3⟩ := bAnd_true (a := Nat.beq e.f f) (b := bAnd (avEq e.a a) (mtP S e.p y)) h23
        obtain ⟨h3, h4⟩ := bAnd_true h3
        obtain rfl : e.f = f := Nat.eq_of_beq_eq_true h2
        obtain rfl := avEq_sound _ _ h3
        have h5 := List.all_eq_true.1 hp e h1
        refine ⟨bodyOK_spec (List.all_eq_true.1 hb e h1), Nat.le_refl _, fun b _ hn => hn, fun E A w hA hH _ => ?_⟩
        have hO : @OutOK (nameS val sla) E w outs := by
          intro k o hk
          have := outsAt_sound hH outs 0 hout k o hk
          simp only [Nat.zero_add] at this
          refine ⟨this.1, fun hne i u hu => ?_, this.2.2⟩
          rw [this.2.1 hne i u hu, conc_val (I := symsOf val F h sla) (J := nameS val sla) rfl rfl]
        have h6 := ht e h1 E w (conc E y) hO (ptOf_val (I := symsOf val F h sla) (J := nameS val sla) rfl rfl (mtP_sound hH h4))
        rw [conc_val (I := nameS val sla) (J := symsOf val F h sla) rfl rfl, conc_val (I := nameS val sla) (J := symsOf val F h sla) rfl rfl, plain_conc (E := E0) (E' := E) _ h5] at h6
        exact h6.mono fun e' w' he => ⟨E, he.1, gives_below hH (plain_wf _ h5) he.2⟩
      · cases hc
    · cases hc
  · cases hc

theorem tabG_sound {val : Nat → Int} {F : List Fact} (h : Holds val F) {sla : Nat → Option Addr × Nat} {l : List (SB × FuncId × List AV × AV)} (hb : l.all (fun x => bodyOK P x.2.1) = true) (hp : l.all (fun x => plain x.2.2.2 && plains x.2.2.1) = true)
    (ht : TabGK P val sla l) : @CallerOK (symsOf val F h sla) P (@tabG (symsOf val F h sla) l) := by
  letI I := symsOf val F h sla
  refine CallerOK.of ?_
  intro f args S v S' hc
  unfold tabG at hc
  split at hc
  · rename_i x hx
    cases hc
    have h1 := List.mem_of_find?_eq_some hx
    have h23 := List.find?_some hx
    obtain ⟨hgd, h23⟩ := bAnd_true (a := isTrue (Syms.dec x.1)) (b := bAnd (Nat.beq x.2.1 f) (avEqs x.2.2.1 args)) h23
    have hgd : x.1.eval val = true := Syms.decOK _ _ (isTrue_iff hgd)
    obtain ⟨h2, h3⟩ := bAnd_true (a := Nat.beq x.2.1 f) (b := avEqs x.2.2.1 args) h23
    obtain rfl : x.2.1 = f := Nat.eq_of_beq_eq_true h2
    obtain rfl := avEqs_sound _ _ h3
    have h5 := List.all_eq_true.1 hp x h1
    simp only [Bool.and_eq_true] at h5
    refine ⟨bodyOK_spec (List.all_eq_true.1 hb x h1), Nat.le_refl _, fun b _ hn => hn, fun E A w hA hH _ => ?_⟩
    have h6 := ht x h1 hgd w
    rw [concs_val (I := nameS val sla) (J := symsOf val F h sla) rfl rfl, conc_val (I := nameS val sla) (J := symsOf val F h sla) rfl rfl, plain_conc (E := E0) (E' := E) _ h5.1, plains_conc (E := E0) (E' := E) _ h5.2] at h6
    exact h6.mono fun e' w' he => ⟨E, he.1, gives_below hH (plain_wf _ h5.1) he.2⟩
  · cases hc

theorem orcT_sound {val : Nat → Int} {F : List Fact} (h : Holds val F) {sla : Nat → Option Addr × Nat} {T : Tb} (hb : tbB P T = true) (ht : TbOK P val sla T) : @CallerOK (symsOf val F h sla) P (@orcT (symsOf val F h sla) T) := by
  obtain ⟨h1, hb⟩ := bAnd_true hb
  obtain ⟨h2, hb⟩ := bAnd_true hb
  obtain ⟨h3, hb⟩ := bAnd_true hb
  obtain ⟨h4, hb⟩ := bAnd_true hb
  obtain ⟨h5, hb⟩ := bAnd_true hb
  obtain ⟨h6, hb⟩ := bAnd_true hb
  obtain ⟨h7, hb⟩ := bAnd_true hb
  obtain ⟨h8, hb⟩ := bAnd_true hb
  obtain ⟨h9, hb⟩ := bAnd_true hb
  obtain ⟨h10, h11⟩ := bAnd_true hb
  exact @orElse_sound P (symsOf val F h sla) _ _ (tabOK_sound h h1 h2 ht.tab) (@orElse_sound P (symsOf val F h sla) _ _ (tabG_sound h h10 h11 ht.tg) (@orElse_sound P (symsOf val F h sla) _ _ (tabOO_sound h h3 h4 ht.to) (@orElse_sound P (symsOf val F h sla) _ _ (mTabOK_sound h h5 ht.me)
    (@orElse_sound P (symsOf val F h sla) _ _ (pkO_sound h h6 h7 ht.pk) (xTab_sound h h8 h9 ht.xe)))))

end

/-! Names that are allowed. -/

noncomputable def onA (dn : Nat → Bool) (x : SX) : Bool :=
  SX.rec (motive := fun _ => Bool) (fun _ => true) (fun k => dn k) (fun _ _ i => i) (fun _ _ i k => bAnd i k) (fun _ _ i k => bAnd i k) (fun _ _ i k => bAnd i k) (fun _ _ i => i) (fun _ _ i => i) (fun _ _ i => i) (fun _ _ i => i)
    (fun _ _ _ i k => bAnd i k) (fun _ _ _ i k => bAnd i k) (fun _ _ _ i k => bAnd i k) (fun _ _ _ => false) (fun _ _ i => i) x

noncomputable def onB (dn : Nat → Bool) (b : SB) : Bool :=
  SB.rec (motive := fun _ => Bool) true true (fun x y => bAnd (onA dn x) (onA dn y)) (fun x y => bAnd (onA dn x) (onA dn y)) (fun x y => bAnd (onA dn x) (onA dn y)) (fun _ i => i) (fun _ _ i k => bAnd i k) (fun _ _ i k => bAnd i k) b

noncomputable def onF (dn : Nat → Bool) : Fact → Bool
  | .is x _ => onA dn x
  | .ne x _ => onA dn x
  | .ge x _ => onA dn x
  | .le x _ => onA dn x
  | .at b _ => onB dn b

def Ag (dn : Nat → Bool) (val val' : Nat → Int) : Prop := ∀ k, dn k = true → val' k = val k

theorem eval_on {dn : Nat → Bool} {val val' : Nat → Int} (hag : Ag dn val val') : ∀ x : SX, onA dn x = true → x.eval val' = x.eval val := by
  intro x
  induction x with
  | c n => intro _; rfl
  | a k => intro h; exact hag k h
  | wrap k x i | shl x k i | shr x k i | quo x k i | rem x k i | tab k x i => intro h; simp only [SX.eval, i h]
  | add x y i k | sub x y i k | mul x y i k => intro h; have h' := bAnd_true h; simp only [SX.eval, i h'.1, k h'.2]
  | and q x y i k | or q x y i k | xor q x y i k => intro h; have h' := bAnd_true h; simp only [SX.eval, i h'.1, k h'.2]
  | «at» k x i => intro h; cases h

theorem evalB_on {dn : Nat → Bool} {val val' : Nat → Int} (hag : Ag dn val val') : ∀ b : SB, onB dn b = true → b.eval val' = b.eval val := by
  intro b
  induction b with
  | tt => intro _; rfl
  | ff => intro _; rfl
  | eq x y | lt x y | le x y => intro h; have h' := bAnd_true h; simp only [SB.eval, eval_on hag _ h'.1, eval_on hag _ h'.2]
  | not b i => intro h; simp only [SB.eval, i h]
  | and a b i k | or a b i k => intro h; have h' := bAnd_true h; simp only [SB.eval, i h'.1, k h'.2]

theorem holds_on {dn : Nat → Bool} {val val' : Nat → Int} {F : List Fact} (hag : Ag dn val val') (hn : F.all (onF dn) = true) (h : Holds val F) : Holds val' F := by
  intro f hf
  have h1 := h f hf
  have h2 := List.all_eq_true.1 hn f hf
  cases f with
  | is x n => show x.eval _ = n; rw [eval_on hag x h2]; exact h1
  | ne x n => show x.eval _ ≠ n; rw [eval_on hag x h2]; exact h1
  | ge x n => show n ≤ x.eval _; rw [eval_on hag x h2]; exact h1
  | le x n => show x.eval _ ≤ n; rw [eval_on hag x h2]; exact h1
  | «at» b v => show b.eval _ = v; rw [evalB_on hag b h2]; exact h1

/-- What calls give: a row of numbers, for all values of the names but some. -/
def Cl (P : Program) (dn : Nat → Bool) (outs : List (Nat × List AV)) (capF : List Fact) (l : List (FuncId × List AV × List Sh)) (m : Nat) (R : (Nat → Int) → List Int → Prop) (T : Tb) (val : Nat → Int) : Prop :=
  ∃ Y : List Int, Y.length = m ∧ R val Y ∧ ∀ val' sla, Ag dn val val' → Holds val' capF → TbOK P val' sla T → ∀ x ∈ l, RetO P x.1 x.2.1 outs sla val' (shV x.2.2 Y)

theorem leafCl {P : Program} {dn : Nat → Bool} {outs : List (Nat × List AV)} {capF : List Fact} {l : List (FuncId × List AV × List Sh)} {m fuel : Nat} {R : (Nat → Int) → List Int → Prop} {T : Tb} (orc : ∀ [Syms], Caller) (ho : ∀ [Syms], CallerOK P orc) (phi : List SX → SB)
    (hmix : P.follows .mixedOrders = true) (hpl : outs.all plainO = true) (hw : ∀ x ∈ l, wfVs (· < outs.length) x.2.1) (hb : tbB P T = true)
    {val : Nat → Int} {F : List Fact} (h : Holds val F) (Y : List SX) (hR : (phi Y).eval val = true → R val (Y.map (SX.eval val)))
    (hc : bAnd (F.all (onF dn)) (bAnd (Y.all (onA dn)) (bAnd (Nat.beq Y.length m) (isTrue (decF F (phi Y))))) = true)
    (hg : ∀ (v : Nat → Int) (hG : Holds v (F ++ capF)) (sla : Nat → Option Addr × Nat), @givesO (symsOf v _ hG sla) P (orElse (@orc (symsOf v _ hG sla)) (@orcT (symsOf v _ hG sla) T)) fuel outs Y l = true) : Cl P dn outs capF l m R T val := by
  obtain ⟨c1, hc⟩ := bAnd_true hc
  obtain ⟨c2, hc⟩ := bAnd_true hc
  obtain ⟨c3, c4⟩ := bAnd_true hc
  refine ⟨Y.map (SX.eval val), by rw [List.length_map, Nat.eq_of_beq_eq_true c3], hR (decF_sound h _ _ (isTrue_iff c4)), fun val' sla hag hcap hT x hx => ?_⟩
  have hG : Holds val' (F ++ capF) := holds_append (holds_on hag c1 h) hcap
  have hY : Y.map (SX.eval val') = Y.map (SX.eval val) := by
    apply List.map_congr_left
    intro y hy
    exact eval_on hag y (List.all_eq_true.1 c2 y hy)
  have := retO_all hG (sla := sla) (@orElse_sound P (symsOf val' _ hG sla) _ _ (@ho (symsOf val' _ hG sla)) (orcT_sound hG hb hT)) hmix hpl l hw (hg val' hG sla) x hx
  rw [hY] at this
  exact this

/-- A law by known calls. -/
def LwCl (P : Program) (outs : List (Nat × List AV)) (f : FuncId) (args : List AV) (T : Tb) (val : Nat → Int) : Prop := ∀ sla, TbOK P val sla T → LawO P f args outs sla val

theorem leafLw {P : Program} {outs : List (Nat × List AV)} {f fuel : Nat} {args : List AV} {T : Tb} (orc : ∀ [Syms], Caller) (ho : ∀ [Syms], CallerOK P orc)
    (hmix : P.follows .mixedOrders = true) (hpl : outs.all plainO = true) (hw : wfVs (· < outs.length) args) (hb : tbB P T = true) {val : Nat → Int} {F : List Fact} (h : Holds val F)
    (hg : ∀ (v : Nat → Int) (hG : Holds v F) (sla : Nat → Option Addr × Nat), saysTrue (@runO (symsOf v _ hG sla) P (orElse (@orc (symsOf v _ hG sla)) (@orcT (symsOf v _ hG sla) T)) fuel f args outs) = true) : LwCl P outs f args T val := fun sla hT =>
  lawO_of h (@orElse_sound P (symsOf val _ h sla) _ _ (@ho (symsOf val _ h sla)) (orcT_sound h hb hT)) hmix hw hpl (hg val h sla)

end Go.Sim
