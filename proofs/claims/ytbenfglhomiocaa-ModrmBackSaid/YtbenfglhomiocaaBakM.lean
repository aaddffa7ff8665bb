/-
  The law 'ModrmBack': Read's calls, of each kind of operand.
-/
import Derived.Test.YtbenfglhomiocaaBakL

namespace Go.Proofs.Ytbenfglhomiocaa.Bak
open Go.Sim Go.Proofs.Ytbenfglhomiocaa.Fld Go.Proofs.Ytbenfglhomiocaa.Tab
open Go.Proofs.Ytbenfglhomiocaa.Br (RK RA OfR valR readR sR)
set_option maxRecDepth 100000

def hdOf (r : RK) (f lo : Int) : Int := 64 * (r.md : Int) + 8 * f + r.rmV lo

def sbOf (r : RK) (lo ix : Int) : Int := 64 * r.ssV + 8 * r.ixV ix + r.bsV lo

/-- The kinds that are wanted. -/
def RKin (r : RK) : Prop :=
  (r.t = 0 ∧ r.md = 3 ∧ r.x = 0 ∧ r.b ≤ 1 ∧ r.ss = 0 ∧ r.lb = 8 ∧ r.li = 0) ∨ r = ⟨1, 0, 0, 0, 0, 0, 0⟩ ∨ r = ⟨2, 0, 0, 0, 0, 0, 0⟩ ∨ (r.t = 3 ∧ r.md ≤ 2 ∧ r.x = 0 ∧ r.b ≤ 1 ∧ r.ss = 0 ∧ r.lb = 8 ∧ r.li = 0) ∨
  (r.t = 4 ∧ r.md ≤ 2 ∧ r.x = 0 ∧ r.b ≤ 1 ∧ r.ss = 0 ∧ (r.lb = 8 ∨ (r.lb = 5 ∧ r.md ≠ 0)) ∧ r.li = 0) ∨ (r.t = 5 ∧ r.md = 0 ∧ r.x ≤ 1 ∧ r.b = 0 ∧ r.ss ≤ 3 ∧ r.lb = 0 ∧ (r.li = 8 ∨ (r.li = 4 ∧ r.x = 1))) ∨
  (r.t = 6 ∧ r.md ≤ 2 ∧ r.x ≤ 1 ∧ r.b ≤ 1 ∧ r.ss ≤ 3 ∧ (r.lb = 8 ∨ (r.lb = 5 ∧ r.md ≠ 0)) ∧ (r.li = 8 ∨ (r.li = 4 ∧ r.x = 1)))

def SelAll : Prop := ∀ (r : RK) (k : Nat), RKin r → k ≤ 3 → (k = 2 → r.sib = true) → (k = 3 → r.dsp ≠ 0) → RA r k

/-- A call is as the entry says. -/
def EntryOK (val : Nat → Int) (sla : Nat → Option Addr × Nat) (x : LE) : Prop :=
  ∀ (w : World) (p n cap : Nat), p < w.heap.size → n ≤ cap → n ≤ 65536 →
    (match x.n with
      | none => (∀ j, j < n → ∃ z, w.cell? ⟨p, j, none⟩ = some (.int .u8 z)) ∧ 0 ≤ x.N.eval val ∧ x.N.eval val + x.l.length ≤ n ∧ ∀ (i : Nat) (v : AV), x.l[i]? = some v → w.cell? ⟨p, (x.N.eval val).toNat + i, none⟩ = some (@conc (nameS val sla) E0 v)
      | some e => (n : Int) = e.eval val ∧ ∀ (i : Nat) (v : AV), x.l[i]? = some v → w.cell? ⟨p, i, none⟩ = some (@conc (nameS val sla) E0 v)) →
    Calls Try.prog x.f (.slice (some ⟨p, 0, none⟩) n cap :: @concs (nameS val sla) E0 x.as).toArray w fun e w' => e = .returned (@conc (nameS val sla) E0 x.res) ∧ RowKit.Below w.heap.size w w'

def fullE (c : Cfg) (l : List AV) (x b : Nat) : LE := ⟨9, none, c.offs, l, [a 1, ci x, ci b], c.seen l.length⟩

def cutE (l : List AV) (x b : Nat) : LE := ⟨9, some (.a (70 + l.length)), .c 0, l, [ci 0, ci x, ci b], cutR⟩

/-- A way. -/
def WayOK (c : Cfg) (val : Nat → Int) (sla : Nat → Option Addr × Nat) (w : List AV × Nat × Nat) : Prop := EntryOK val sla (fullE c w.1 w.2.1 w.2.2) ∧ (Nat.ble w.1.length 1 = false → EntryOK val sla (cutE w.1 w.2.1 w.2.2))

section
variable {c : Cfg} {v : V} {sla : Nat → Option Addr × Nat}

theorem lslOK (h : ∀ w ∈ c.ways, WayOK c (valB v) sla w) : LslOK Try.prog (valB v) sla (lE c) := by
  intro x hx
  obtain ⟨w, hw, hxw⟩ := List.mem_flatMap.1 hx
  obtain ⟨h1, h2⟩ := h w hw
  rcases List.mem_cons.1 hxw with rfl | hxw
  · exact h1
  · cases hb : Nat.ble w.1.length 1 with
    | true => rw [hb] at hxw; cases hxw
    | false =>
      rw [hb] at hxw
      rcases List.mem_cons.1 hxw with rfl | hxw
      · exact h2 hb
      · cases hxw

theorem offsV (o : OfB c v sla) : c.offs.eval (valB v) = (v.zs.length : Int) := by
  unfold Cfg.offs
  cases ha : c.ah with
  | true => rfl
  | false => show (0 : Int) = _; rw [o.an ha]; rfl

/-- The bytes of a way, by its kind. -/
theorem wayOK {r : RK} {l : List AV} {lo ix : Int} (o : OfB c v sla) (q : WayIs r v sla l lo ix (hdOf r v.f lo) (sbOf r lo ix)) (hlo : 0 ≤ lo ∧ lo ≤ 7) (hix : 0 ≤ ix ∧ ix ≤ 7)
    (hs : ∀ (zs : List Int) (cp : Int), @conc (nameS (valR zs cp v.zs.length v.f lo ix v.d (sbOf r lo ix) (hdOf r v.f lo)) sR) E0 r.seen = @conc (nameS (valB v) sla) E0 (c.seen l.length)) : WayOK c (valB v) sla (l, r.x, r.b) := by
  have ho := offsV o
  refine ⟨?_, fun hb => ?_⟩
  · intro w p n cap hp hn hx hm
    obtain ⟨h1, h2, h3, h4⟩ := hm
    have h3 : c.offs.eval (valB v) + (l.length : Int) ≤ (n : Int) := h3
    rw [ho] at h3
    have h4 : ∀ (i : Nat) (u : AV), l[i]? = some u → w.cell? ⟨p, (c.offs.eval (valB v)).toNat + i, none⟩ = some (@conc (nameS (valB v) sla) E0 u) := h4
    rw [ho, Int.toNat_natCast] at h4
    exact fullL q o.f0 hlo hix o.d0 v.zs.length hs w p n cap hp hn hx h1 (by omega) h4
  · intro w p n cap hp hn hx hm
    obtain ⟨h1, h2⟩ := hm
    have h1 : (n : Int) = valB v (70 + l.length) := h1
    obtain ⟨bs, hbs, hbl, _⟩ := q.bytes
    have hds := Br.dspIs r
    have hL : l.length = r.dO + r.dsp := by
      rw [hbl, hbs]
      unfold RK.dO
      cases r.sib <;> simp [len_d _ _ hds] <;> omega
    have hdO : r.dO = 1 ∨ r.dO = 2 := by unfold RK.dO; cases r.sib; exact .inl rfl; exact .inr rfl
    have hn1 : l.length ≠ 1 := fun e => by
      have hb : Nat.ble l.length 1 = false := hb
      rw [e] at hb; cases hb
    have hl4 : l.length = 2 ∨ l.length = 3 ∨ l.length = 5 ∨ l.length = 6 := by omega
    have hlt : n < l.length := by
      rcases hl4 with e | e | e | e <;> rw [e] at h1 ⊢
      · have h1 : (n : Int) = v.cut % 2 := h1
        omega
      · have h1 : (n : Int) = v.cut % 3 := h1
        omega
      · have h1 : (n : Int) = v.cut % 5 := h1
        omega
      · have h1 : (n : Int) = v.cut % 6 := h1
        omega
    exact cutL q o.f0 hlo hix o.d0 w p n cap hp hn hlt h2

/-- A way's kind, out of its bytes. -/
theorem mkWay {r : RK} {l : List AV} {lo ix : Int} (hS : SelAll) (hin : RKin r) (ht : r.t ≤ 6)
    (hb : ∃ bs : List Int, bs = hdOf r v.f lo :: ((cond r.sib [sbOf r lo ix] []) ++ dBytes v.d r.dsp) ∧ l.map (@conc (nameS (valB v) sla) E0) = bs.map (Value.int .u8)) (lb : r.lb = 8 ∨ r.lb ≤ 7) (li : r.li = 8 ∨ r.li ≤ 7) (md : r.md ≤ 3) (ss : r.ss ≤ 3)
    (ne4 : r.t = 3 → lo ≠ 4) (ne5 : r.lb = 8 → (r.t = 4 ∨ r.t = 6 ∨ (r.t = 3 ∧ r.md = 0)) → lo ≠ 5) (ni4 : r.li = 8 → ix ≠ 4) (d1 : r.dsp = 1 → fits8 v.d) : WayIs r v sla l lo ix (hdOf r v.f lo) (sbOf r lo ix) := by
  obtain ⟨bs, h1, h2⟩ := hb
  refine ⟨⟨bs, h1, ?_, fun i u hu => ?_⟩, ht, lb, li, md, ss, rfl, rfl, ne4, ne5, ni4, d1, fun k h1 h2 h3 => hS r k hin h1 h2 h3⟩
  · have := congrArg List.length h2
    simpa using this
  · have h3 : (l.map (@conc (nameS (valB v) sla) E0))[i]? = some (@conc (nameS (valB v) sla) E0 u) := by rw [List.getElem?_map, hu]; rfl
    rw [h2, List.getElem?_map] at h3
    cases hbi : bs[i]? with
    | none => rw [hbi] at h3; cases h3
    | some z =>
      rw [hbi] at h3
      rw [List.getD_eq_getElem?_getD, hbi]
      exact (Option.some.inj h3).symm

/-- The displacement's bytes. -/
theorem d4map (o : OfB c v sla) : c.d4.map (@conc (nameS (valB v) sla) E0) = (dBytes v.d 4).map (Value.int .u8) := by
  unfold Cfg.d4
  split
  · rename_i h; rw [o.dz h]; rfl
  · rfl

theorem d1map (o : OfB c v sla) : c.d1.map (@conc (nameS (valB v) sla) E0) = (dBytes v.d 1).map (Value.int .u8) := by
  unfold Cfg.d1
  split
  · rename_i h; rw [o.dz h]; rfl
  · rfl

theorem dispV (o : OfB c v sla) : @conc (nameS (valB v) sla) E0 c.disp = .int .i64 v.d := by
  unfold Cfg.disp
  split
  · rename_i h; rw [o.dz h]; rfl
  · rfl

end
end Go.Proofs.Ytbenfglhomiocaa.Bak
