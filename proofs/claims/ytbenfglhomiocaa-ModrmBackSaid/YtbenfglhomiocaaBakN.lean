/-
  The law 'ModrmBack': the ways of each kind of operand.
-/
import Derived.Test.YtbenfglhomiocaaBakM

namespace Go.Proofs.Ytbenfglhomiocaa.Bak
open Go.Sim Go.Proofs.Ytbenfglhomiocaa.Fld Go.Proofs.Ytbenfglhomiocaa.Tab
open Go.Proofs.Ytbenfglhomiocaa.Br (RK RA OfR valR readR sR)
set_option maxRecDepth 100000

section
variable {c : Cfg} {v : V} {sla : Nat → Option Addr × Nat} {r : RK} {zs : List Int} {cp : Int} {o : Nat} {lo ix sb hd : Int}

theorem numR {val : Nat → Int} {q k n : Nat} {m : Int} (hq : q ≤ 1) (hv : n = 8 → val k = m) (hm : 0 ≤ m ∧ m ≤ 7) (h : n = 8 ∨ m = (n : Int)) : @conc (nameS val sR) E0 (Br.num q k n) = .int .i64 (8 * q + m) := by
  unfold Br.num
  split
  · have w : IntKind.i64.wrap (((8 * q : Nat) : Int) + val k) = 8 * q + m := by rw [wrapI, hv rfl]; omega
    rw [← w]; rfl
  · rename_i h8
    rcases h with h | h
    · exact absurd h (by simpa using h8)
    · have w : ((8 * q + n : Nat) : Int) = 8 * q + m := by omega
      rw [← w]; rfl

theorem numB {val : Nat → Int} {q k n : Nat} {m : Int} (hq : q ≤ 1) (hv : n = 8 → val k = m) (hm : 0 ≤ m ∧ m ≤ 7) (h : n = 8 ∨ m = (n : Int)) : @conc (nameS val sla) E0 (num q k n) = .int .i64 (8 * q + m) := by
  unfold num
  split
  · have w : IntKind.i64.wrap (((8 * q : Nat) : Int) + val k) = 8 * q + m := by rw [wrapI, hv rfl]; omega
    rw [← w]; rfl
  · rename_i h8
    rcases h with h | h
    · exact absurd h (by simpa using h8)
    · have w : ((8 * q + n : Nat) : Int) = 8 * q + m := by omega
      rw [← w]; rfl

/-- Where Read ends. -/
theorem endsR (ho : o ≤ 30) : (r.ends).eval (valR zs cp o v.f lo ix v.d sb hd) = ((o + (r.dO + r.dsp) : Nat) : Int) := by
  have h1 : Br.at1.eval (valR zs cp o v.f lo ix v.d sb hd) = ((o + 1 : Nat) : Int) := Br.at1R (by omega)
  have h2 : Br.at2.eval (valR zs cp o v.f lo ix v.d sb hd) = ((o + 2 : Nat) : Int) := Br.at2R (by omega)
  have he : (cond r.sib Br.at2 Br.at1).eval (valR zs cp o v.f lo ix v.d sb hd) = ((o + r.dO : Nat) : Int) := by
    unfold RK.dO
    cases r.sib
    · exact h1
    · exact h2
  have hdO : r.dO ≤ 2 := by unfold RK.dO; cases r.sib <;> decide
  have key : ∀ n, r.dsp = n → (n = 1 ∨ n = 4) → SX.eval (valR zs cp o v.f lo ix v.d sb hd) (.wrap .i64 (.add (cond r.sib Br.at2 Br.at1) (.c (.ofNat n)))) = ((o + (r.dO + n) : Nat) : Int) := fun n _ hn => by
    show IntKind.i64.wrap ((cond r.sib Br.at2 Br.at1).eval (valR zs cp o v.f lo ix v.d sb hd) + (n : Int)) = _
    rw [he, wrapI]; omega
  unfold RK.ends
  rcases Br.dspIs r with e | e | e
  · rw [e]; exact he
  · have := key 1 e (.inl rfl)
    rw [e]; exact this
  · have := key 4 e (.inr rfl)
    rw [e]; exact this

/-- What Read tells is what the way was made of. -/
theorem seenEq (h0 : r.t ≠ 0) (hk : c.kd ≠ 0) (ho : v.zs.length ≤ 30) {n : Nat} (hn : n = r.dO + r.dsp)
    (hb : r.base.map (@conc (nameS (valR zs cp v.zs.length v.f lo ix v.d sb hd) sR) E0) = c.base.map (@conc (nameS (valB v) sla) E0)) (hi : r.index.map (@conc (nameS (valR zs cp v.zs.length v.f lo ix v.d sb hd) sR) E0) = c.index.map (@conc (nameS (valB v) sla) E0))
    (hs : @conc (nameS (valR zs cp v.zs.length v.f lo ix v.d sb hd) sR) E0 r.scale = @conc (nameS (valB v) sla) E0 c.scale) (hdd : @conc (nameS (valR zs cp v.zs.length v.f lo ix v.d sb hd) sR) E0 r.disp = @conc (nameS (valB v) sla) E0 c.disp) :
    @conc (nameS (valR zs cp v.zs.length v.f lo ix v.d sb hd) sR) E0 r.seen = @conc (nameS (valB v) sla) E0 (c.seen n) := by
  have e1 : r.seen = .tup [.agg ([Br.a 10, .v (.int .i64 (-1))] ++ (r.base ++ (r.index ++ [r.scale, r.disp, Br.ci 0, .sx .i64 r.ends]))), Br.ci 0] := by
    unfold RK.seen
    split
    · rename_i h; exact absurd h h0
    · rfl
  have e2 : c.seen n = .tup [.agg ([a 10, .v (.int .i64 (-1))] ++ ((c.base ++ (c.index ++ [c.scale, c.disp, ci 0])) ++ [.sx .i64 (.wrap .i64 (.add (.a 1) (.c (.ofNat n))))])), ci 0] := by
    unfold Cfg.seen
    cases hb : Nat.beq c.kd 0 with
    | true => exact absurd (beqT hb) hk
    | false => rfl
  have he := endsR (r := r) (v := v) (zs := zs) (cp := cp) (o := v.zs.length) (lo := lo) (ix := ix) (sb := sb) (hd := hd) ho
  have he2 : SX.eval (valB v) (.wrap .i64 (.add (.a 1) (.c (.ofNat n)))) = ((v.zs.length + (r.dO + r.dsp) : Nat) : Int) := by
    show IntKind.i64.wrap ((v.zs.length : Int) + (n : Int)) = _
    have hdO : r.dO ≤ 2 := by unfold RK.dO; cases r.sib <;> decide
    have hds := Br.dspIs r
    rw [wrapI, hn]; omega
  rw [e1, e2]
  simp only [conc, concs, concs_eq, List.map_append, List.map_cons, List.map_nil, hb, hi, hs, hdd, List.append_assoc, List.cons_append, List.nil_append]
  have he' : SX.eval (@Syms.val (nameS (valR zs cp v.zs.length v.f lo ix v.d sb hd) sR)) r.ends = ((v.zs.length + (r.dO + r.dsp) : Nat) : Int) := he
  have he2' : SX.eval (@Syms.val (nameS (valB v) sla)) (.wrap .i64 (.add (.a 1) (.c (.ofNat n)))) = ((v.zs.length + (r.dO + r.dsp) : Nat) : Int) := he2
  rw [he', he2']
  rfl

theorem scaleV (hI : c.isI = true) (hs : c.ss ≤ 3) : @conc (nameS (valB v) sla) E0 c.scale = .int .i64 (2 ^ c.ss : Nat) := by
  unfold Cfg.scale
  rw [hI]
  have : c.ss = 0 ∨ c.ss = 1 ∨ c.ss = 2 ∨ c.ss = 3 := by omega
  rcases this with e | e | e | e <;> rw [e] <;> rfl

theorem dispR {w : Int} (h : r.dsp ≠ 0 ∨ w = 0) (hw : v.d = w) : @conc (nameS (valR zs cp o v.f lo ix v.d sb hd) sR) E0 r.disp = .int .i64 w := by
  unfold RK.disp
  split
  · rename_i h0
    rcases h with h | h
    · exact absurd h0 h
    · rw [h]; rfl
  · rw [← hw]; rfl

/-- A register. -/
theorem way0 (hS : SelAll) (ofb : OfB c v sla) (hk : c.kd = 0) (h42 : valB v 42 = 8 * (c.hb : Int) + v.lo) : WayOK c (valB v) sla ([u 23], 0, c.hb) := by
  have hin : RKin ⟨0, 3, 0, c.hb, 0, 8, 0⟩ := .inl ⟨rfl, rfl, rfl, ofb.hb, rfl, rfl, rfl⟩
  have q : WayIs ⟨0, 3, 0, c.hb, 0, 8, 0⟩ v sla [u 23] v.lo v.ix (hdOf ⟨0, 3, 0, c.hb, 0, 8, 0⟩ v.f v.lo) (sbOf ⟨0, 3, 0, c.hb, 0, 8, 0⟩ v.lo v.ix) :=
    mkWay hS hin (show (0 : Nat) ≤ 6 by decide) ⟨_, rfl, rfl⟩ (.inl rfl) (.inr (show (0 : Nat) ≤ 7 by decide)) (show (3 : Nat) ≤ 3 by decide) (show (0 : Nat) ≤ 3 by decide) (fun h => absurd h (show (0 : Nat) ≠ 3 by decide)) (fun _ h => by rcases h with h | h | ⟨h, _⟩ <;> cases h) (fun h => absurd h (show (0 : Nat) ≠ 8 by decide)) (fun h => absurd h (show (0 : Nat) ≠ 1 by decide))
  refine wayOK (r := ⟨0, 3, 0, c.hb, 0, 8, 0⟩) (l := [u 23]) (lo := v.lo) (ix := v.ix) ofb q ofb.lo0 ofb.ix0 ?_
  intro zs cp
  have hz : v.zs.length ≤ 30 := by
    cases ha : c.ah with
    | true => exact (ofb.ah ha).2
    | false => rw [ofb.an ha]; decide
  have e2 : c.seen [u 23].length = .tup [.agg [a 10, a 42, ci 0, ci 0, ci 0, ci 0, ci 0, ci 0, ci 0, .sx .i64 (.wrap .i64 (.add (.a 1) (.c (.ofNat 1))))], ci 0] := by
    unfold Cfg.seen
    rw [hk]; rfl
  have e1 : RK.seen ⟨0, 3, 0, c.hb, 0, 8, 0⟩ = .tup [.agg [Br.a 10, Br.num c.hb 11 8, Br.ci 0, Br.ci 0, Br.ci 0, Br.ci 0, Br.ci 0, Br.ci 0, Br.ci 0, .sx .i64 Br.at1], Br.ci 0] := rfl
  rw [e1, e2]
  generalize hdOf ⟨0, 3, 0, c.hb, 0, 8, 0⟩ v.f v.lo = hd
  generalize sbOf ⟨0, 3, 0, c.hb, 0, 8, 0⟩ v.lo v.ix = sb
  have n1 : @conc (nameS (valR zs cp v.zs.length v.f v.lo v.ix v.d sb hd) sR) E0 (Br.num c.hb 11 8) = .int .i64 (8 * (c.hb : Int) + v.lo) := numR ofb.hb (fun _ => rfl) ofb.lo0 (.inl rfl)
  have h42' : @conc (nameS (valB v) sla) E0 (a 42) = .int .i64 (8 * (c.hb : Int) + v.lo) := by rw [← h42]; rfl
  have l1 : @concs (nameS (valR zs cp v.zs.length v.f v.lo v.ix v.d sb hd) sR) E0 [Br.a 10, Br.num c.hb 11 8, Br.ci 0, Br.ci 0, Br.ci 0, Br.ci 0, Br.ci 0, Br.ci 0, Br.ci 0, .sx .i64 Br.at1] =
      [.int .i64 v.f, .int .i64 (8 * (c.hb : Int) + v.lo), .int .i64 0, .int .i64 0, .int .i64 0, .int .i64 0, .int .i64 0, .int .i64 0, .int .i64 0, .int .i64 (IntKind.i64.wrap ((v.zs.length : Int) + 1))] := by
    simp only [concs, n1]; rfl
  have l2 : @concs (nameS (valB v) sla) E0 [a 10, a 42, ci 0, ci 0, ci 0, ci 0, ci 0, ci 0, ci 0, .sx .i64 (.wrap .i64 (.add (.a 1) (.c (.ofNat 1))))] =
      [.int .i64 v.f, .int .i64 (8 * (c.hb : Int) + v.lo), .int .i64 0, .int .i64 0, .int .i64 0, .int .i64 0, .int .i64 0, .int .i64 0, .int .i64 0, .int .i64 (IntKind.i64.wrap ((v.zs.length : Int) + 1))] := by
    simp only [concs, h42']; rfl
  have k : ∀ (I : Syms) (L : List AV), @conc I E0 (.tup [.agg L, .v (.int .i64 (.ofNat 0))]) = .tuple #[.agg (@concs I E0 L).toArray, .int .i64 0] := fun _ _ => by simp only [conc, concs]; rfl
  exact (k _ _).trans ((congrArg (fun q : List Value => Value.tuple #[.agg q.toArray, .int .i64 0]) (l1.trans l2.symm)).trans (k _ _).symm)

/-- A place with a base: mod's number, what is laid behind the head, the kind. -/
theorem dTab (ofb : OfB c v sla) {m : Nat} {dl : List AV} (h : (m = 0 ∧ dl = [] ∧ c.dk = 0) ∨ (m = 1 ∧ dl = c.d1 ∧ c.dk ≤ 1) ∨ (m = 2 ∧ dl = c.d4)) :
    dl.map (@conc (nameS (valB v) sla) E0) = (dBytes v.d (match m with | 0 => 0 | 1 => 1 | _ => 4)).map (Value.int .u8) := by
  rcases h with ⟨rfl, rfl, _⟩ | ⟨rfl, rfl, _⟩ | ⟨rfl, rfl⟩
  · rfl
  · exact d1map ofb
  · exact d4map ofb

theorem zs30 (ofb : OfB c v sla) : v.zs.length ≤ 30 := by
  cases ha : c.ah with
  | true => exact (ofb.ah ha).2
  | false => rw [ofb.an ha]; decide

/-- A way of a place. -/
theorem wayG {l : List AV} (hS : SelAll) (ofb : OfB c v sla) (hk : c.kd ≠ 0) (h0 : r.t ≠ 0) (hin : RKin r) (ht : r.t ≤ 6) (hbs : l.map (@conc (nameS (valB v) sla) E0) = (hdOf r v.f lo :: ((cond r.sib [sbOf r lo ix] []) ++ dBytes v.d r.dsp)).map (Value.int .u8))
    (lb : r.lb = 8 ∨ r.lb ≤ 7) (li : r.li = 8 ∨ r.li ≤ 7) (md : r.md ≤ 3) (ss : r.ss ≤ 3) (ne4 : r.t = 3 → lo ≠ 4) (ne5 : r.lb = 8 → (r.t = 4 ∨ r.t = 6 ∨ (r.t = 3 ∧ r.md = 0)) → lo ≠ 5) (ni4 : r.li = 8 → ix ≠ 4) (d1 : r.dsp = 1 → fits8 v.d) (hlo : 0 ≤ lo ∧ lo ≤ 7) (hix : 0 ≤ ix ∧ ix ≤ 7)
    (hb : ∀ (zs : List Int) (cp sb hd : Int), r.base.map (@conc (nameS (valR zs cp v.zs.length v.f lo ix v.d sb hd) sR) E0) = c.base.map (@conc (nameS (valB v) sla) E0)) (hi : ∀ (zs : List Int) (cp sb hd : Int), r.index.map (@conc (nameS (valR zs cp v.zs.length v.f lo ix v.d sb hd) sR) E0) = c.index.map (@conc (nameS (valB v) sla) E0))
    (hs : ∀ (zs : List Int) (cp sb hd : Int), @conc (nameS (valR zs cp v.zs.length v.f lo ix v.d sb hd) sR) E0 r.scale = @conc (nameS (valB v) sla) E0 c.scale) (hd0 : r.dsp = 0 → v.d = 0) : WayOK c (valB v) sla (l, r.x, r.b) := by
  have q : WayIs r v sla l lo ix (hdOf r v.f lo) (sbOf r lo ix) := mkWay hS hin ht ⟨_, rfl, hbs⟩ lb li md ss ne4 ne5 ni4 d1
  refine wayOK (r := r) (l := l) (lo := lo) (ix := ix) ofb q hlo hix ?_
  intro zs cp
  have hlen : l.length = r.dO + r.dsp := by
    have := congrArg List.length hbs
    simp only [List.length_map, List.length_cons, List.length_append, len_d _ _ (Br.dspIs r)] at this
    unfold RK.dO
    rw [this]
    cases r.sib <;> simp <;> omega
  refine seenEq h0 hk (zs30 ofb) hlen (hb zs cp _ _) (hi zs cp _ _) (hs zs cp _ _) ?_
  rw [dispV ofb]
  by_cases h : r.dsp = 0
  · rw [dispR (w := v.d) (.inr (hd0 h)) rfl]
  · rw [dispR (w := v.d) (.inl h) rfl]

/-- Nothing but a displacement. -/
theorem way1 (hS : SelAll) (ofb : OfB c v sla) (hk : c.kd = 1) : WayOK c (valB v) sla ([u 24, .v (.int .u8 37)] ++ c.d4, 0, 0) := by
  have hB : c.isB = false := by unfold Cfg.isB; rw [hk]; rfl
  have hI : c.isI = false := by unfold Cfg.isI; rw [hk]; rfl
  have h2 : Nat.beq c.kd 2 = false := by rw [hk]; rfl
  refine wayG (r := ⟨1, 0, 0, 0, 0, 0, 0⟩) (lo := 0) (ix := 0) hS ofb (by rw [hk]; decide) (by decide) (.inr (.inl rfl)) (by decide) ?_ (.inr (by decide)) (.inr (by decide)) (by decide) (by decide) (fun h => absurd h (by decide)) (fun h => absurd h (by decide)) (fun h => absurd h (by decide)) (fun h => absurd h (by decide)) (by decide) (by decide)
    (fun _ _ _ _ => ?_) (fun _ _ _ _ => ?_) (fun _ _ _ _ => ?_) (fun h => absurd h (by decide))
  · rw [List.map_append, d4map ofb]
    rfl
  · unfold Cfg.base; rw [hB, h2]; rfl
  · unfold Cfg.index; rw [hI]; rfl
  · unfold Cfg.scale; rw [hI]; rfl

/-- rip. -/
theorem way2 (hS : SelAll) (ofb : OfB c v sla) (hk : c.kd = 2) : WayOK c (valB v) sla ([u 28] ++ c.d4, 0, 0) := by
  have hB : c.isB = false := by unfold Cfg.isB; rw [hk]; rfl
  have hI : c.isI = false := by unfold Cfg.isI; rw [hk]; rfl
  have h2 : Nat.beq c.kd 2 = true := by rw [hk]; rfl
  refine wayG (r := ⟨2, 0, 0, 0, 0, 0, 0⟩) (lo := 0) (ix := 0) hS ofb (by rw [hk]; decide) (by decide) (.inr (.inr (.inl rfl))) (by decide) ?_ (.inr (by decide)) (.inr (by decide)) (by decide) (by decide) (fun h => absurd h (by decide)) (fun h => absurd h (by decide)) (fun h => absurd h (by decide)) (fun h => absurd h (by decide)) (by decide) (by decide)
    (fun _ _ _ _ => ?_) (fun _ _ _ _ => ?_) (fun _ _ _ _ => ?_) (fun h => absurd h (by decide))
  · rw [List.map_append, d4map ofb]
    rfl
  · unfold Cfg.base; rw [hB, h2]; rfl
  · unfold Cfg.index; rw [hI]; rfl
  · unfold Cfg.scale; rw [hI]; rfl

abbrev pv' (v : Int) (n : Nat) : Int := Br.pv v n

theorem pv_eq {x : Int} {n : Nat} (h : n = 8 ∨ x = (n : Int)) : pv' x n = x := by
  show Br.pv x n = x
  unfold Br.pv
  split
  · rfl
  · rename_i h8
    rcases h with h | h
    · exact absurd h (by simpa using h8)
    · exact h.symm

theorem mapReg {q k n : Nat} {q' k' n' : Nat} {m : Int} {val : Nat → Int} (h1 : @conc (nameS val sR) E0 (Br.num q k n) = .int .i64 m) (h2 : @conc (nameS (valB v) sla) E0 (num q' k' n') = .int .i64 m) :
    [Br.ci 5, Br.num q k n].map (@conc (nameS val sR) E0) = [ci 5, num q' k' n'].map (@conc (nameS (valB v) sla) E0) := by
  simp only [List.map_cons, List.map_nil, h1, h2]
  rfl

/-- An index alone. -/
theorem way4 (hS : SelAll) (ofb : OfB c v sla) (hk : c.kd = 4) : WayOK c (valB v) sla ([u 24, u 34] ++ c.d4, c.hi, 0) := by
  have hB : c.isB = false := by unfold Cfg.isB; rw [hk]; rfl
  have hI : c.isI = true := by unfold Cfg.isI; rw [hk]; rfl
  have h2 : Nat.beq c.kd 2 = false := by rw [hk]; rfl
  have hli := ofb.lis hI
  have hl7 : c.li = 8 ∨ c.li ≤ 7 := by omega
  have n2 : @conc (nameS (valB v) sla) E0 (num c.hi 14 c.li) = .int .i64 (8 * (c.hi : Int) + v.ix) := numB ofb.hi (fun _ => rfl) ofb.ix0 (ofb.li hI)
  have key : ∀ k : Nat, c.ss = k → (k = 1 ∨ k = 2 ∨ k = 3) → WayOK c (valB v) sla ([u 24, u 34] ++ c.d4, c.hi, 0) := by
    intro k e hk3
    refine wayG (r := ⟨5, 0, c.hi, 0, k, 0, c.li⟩) (lo := 0) (ix := v.ix) hS ofb (by rw [hk]; decide) (show (5 : Nat) ≠ 0 by decide) (.inr (.inr (.inr (.inr (.inr (.inl ⟨rfl, rfl, ofb.hi, rfl, show k ≤ 3 by omega, rfl, hli⟩)))))) (show (5 : Nat) ≤ 6 by decide) ?_ (.inr (show (0 : Nat) ≤ 7 by decide)) hl7 (show (0 : Nat) ≤ 3 by decide) (show k ≤ 3 by omega)
      (fun h => absurd h (show (5 : Nat) ≠ 3 by decide)) (fun h => absurd h (show (0 : Nat) ≠ 8 by decide)) ofb.ni4 (fun h => absurd h (show (4 : Nat) ≠ 1 by decide)) (by decide) ofb.ix0 (fun zs cp sb hd => ?_) (fun zs cp sb hd => ?_) (fun zs cp sb hd => ?_) (fun h => absurd h (show (4 : Nat) ≠ 0 by decide))
    · rw [List.map_append, d4map ofb]
      have e34 : @conc (nameS (valB v) sla) E0 (u 34) = .int .u8 (64 * (k : Int) + 8 * pv' v.ix c.li + 5) := by
        rw [pv_eq (ofb.li hI), ← e, ← ofb.ss]; rfl
      simp only [List.map_cons, List.map_nil, e34]
      rfl
    · have eb : c.base = [ci 0, ci 0] := by unfold Cfg.base; rw [hB, h2]; rfl
      rw [eb]
      rcases hk3 with rfl | rfl | rfl <;> rfl
    · rw [index_eq hI]
      have n1 : @conc (nameS (valR zs cp v.zs.length v.f 0 v.ix v.d sb hd) sR) E0 (Br.num c.hi 14 c.li) = .int .i64 (8 * (c.hi : Int) + v.ix) := numR ofb.hi (fun _ => rfl) ofb.ix0 (ofb.li hI)
      have ei : RK.index ⟨5, 0, c.hi, 0, k, 0, c.li⟩ = [Br.ci 5, Br.num c.hi 14 c.li] := by rcases hk3 with rfl | rfl | rfl <;> rfl
      rw [ei]
      exact mapReg n1 n2
    · rw [scaleV hI ofb.ss3, e]
      rcases hk3 with rfl | rfl | rfl <;> rfl
  have h0 := ofb.ss4 hk
  have h3 := ofb.ss3
  exact key c.ss rfl (by omega)

/-- What stands behind the head, and the SIB. -/
def DL (c : Cfg) (v : V) (m : Nat) (dl : List AV) : Prop := (m = 0 ∧ dl = [] ∧ c.dk = 0 ∧ v.lo ≠ 5) ∨ (m = 1 ∧ dl = c.d1 ∧ c.dk ≤ 1) ∨ (m = 2 ∧ dl = c.d4)

def dN (m : Nat) : Nat := match m with | 0 => 0 | 1 => 1 | _ => 4

theorem dlMap (ofb : OfB c v sla) {m : Nat} {dl : List AV} (h : DL c v m dl) : dl.map (@conc (nameS (valB v) sla) E0) = (dBytes v.d (dN m)).map (Value.int .u8) := by
  rcases h with ⟨rfl, rfl, _⟩ | ⟨rfl, rfl, _⟩ | ⟨rfl, rfl⟩
  · rfl
  · exact d1map ofb
  · exact d4map ofb

theorem dl8 (ofb : OfB c v sla) {m : Nat} {dl : List AV} (h : DL c v m dl) (h1 : dN m = 1) : fits8 v.d := by
  rcases h with ⟨rfl, _⟩ | ⟨rfl, _, hd⟩ | ⟨rfl, _⟩
  · cases h1
  · by_cases h0 : c.dk = 0
    · rw [ofb.dz h0]; exact ⟨by decide, by decide⟩
    · exact ofb.d8 (by omega)
  · cases h1

theorem dl0 (ofb : OfB c v sla) {m : Nat} {dl : List AV} (h : DL c v m dl) (h1 : dN m = 0) : v.d = 0 := by
  rcases h with ⟨_, _, hd, _⟩ | ⟨rfl, _⟩ | ⟨rfl, _⟩
  · exact ofb.dz hd
  · cases h1
  · cases h1

theorem dl5 {m : Nat} {dl : List AV} (h : DL c v m dl) (hm : m = 0) : v.lo ≠ 5 := by
  rcases h with ⟨_, _, _, h5⟩ | ⟨e, _⟩ | ⟨e, _⟩
  · exact h5
  · omega
  · omega

theorem dlm {m : Nat} {dl : List AV} (h : DL c v m dl) : m = 0 ∨ m = 1 ∨ m = 2 := by
  rcases h with ⟨h, _⟩ | ⟨h, _⟩ | ⟨h, _⟩ <;> omega

/-- A base, without SIB. -/
theorem way3d (hS : SelAll) (ofb : OfB c v sla) (hk : c.kd = 3) (h4 : c.lb ≠ 4) {m : Nat} {dl : List AV} (h : DL c v m dl) : WayOK c (valB v) sla (u (20 + m) :: dl, 0, c.hb) := by
  have hB : c.isB = true := by unfold Cfg.isB; rw [hk]; rfl
  have hI : c.isI = false := by unfold Cfg.isI; rw [hk]; rfl
  have hm := dlm h
  have n2 : @conc (nameS (valB v) sla) E0 (num c.hb 11 c.lb) = .int .i64 (8 * (c.hb : Int) + v.lo) := numB ofb.hb (fun _ => rfl) ofb.lo0 (ofb.lb hB)
  have eds : RK.dsp ⟨3, m, 0, c.hb, 0, 8, 0⟩ = dN m := by rcases hm with rfl | rfl | rfl <;> rfl
  refine wayG (r := ⟨3, m, 0, c.hb, 0, 8, 0⟩) (lo := v.lo) (ix := 0) hS ofb (by rw [hk]; decide) (show (3 : Nat) ≠ 0 by decide) (.inr (.inr (.inr (.inl ⟨rfl, show m ≤ 2 by omega, rfl, ofb.hb, rfl, rfl, rfl⟩)))) (show (3 : Nat) ≤ 6 by decide) ?_ (.inl rfl) (.inr (show (0 : Nat) ≤ 7 by decide)) (show m ≤ 3 by omega) (show (0 : Nat) ≤ 3 by decide)
    (fun _ => ofb.nb4 hk h4) (fun _ hh => ?_) (fun hh => absurd hh (show (0 : Nat) ≠ 8 by decide)) (fun hh => dl8 ofb h (eds.symm.trans hh)) ofb.lo0 (by decide) (fun zs cp sb hd => ?_) (fun zs cp sb hd => ?_) (fun zs cp sb hd => ?_) (fun hh => dl0 ofb h (eds.symm.trans hh))
  · rw [eds, List.map_cons, dlMap ofb h]
    rcases hm with rfl | rfl | rfl <;> rfl
  · rcases hh with hh | hh | ⟨_, hm0⟩
    · exact absurd hh (show (3 : Nat) ≠ 4 by decide)
    · exact absurd hh (show (3 : Nat) ≠ 6 by decide)
    · have hm0 : m = 0 := hm0
      rcases h with ⟨_, _, _, h5⟩ | ⟨e, _⟩ | ⟨e, _⟩
      · exact h5
      · omega
      · omega
  · rw [base_eq hB]
    exact mapReg (numR ofb.hb (fun _ => rfl) ofb.lo0 (.inl rfl)) n2
  · unfold Cfg.index; rw [hI]; rfl
  · unfold Cfg.scale; rw [hI]; rfl

/-- The low part as Read's kinds have it. -/
def lbK (v : V) : Nat := if v.lo = 5 then 5 else 8

theorem lbK_or (v : V) : lbK v = 8 ∨ v.lo = (lbK v : Int) := by
  unfold lbK
  by_cases h : v.lo = 5
  · rw [if_pos h]; exact .inr h
  · rw [if_neg h]; exact .inl rfl

theorem lbK_ne (v : V) : lbK v = 8 → v.lo ≠ 5 := by
  unfold lbK
  by_cases h : v.lo = 5
  · rw [if_pos h]; intro e; exact absurd e (by decide)
  · exact fun _ => h

theorem lbK_in (v : V) {m : Nat} (hm : m = 0 → v.lo ≠ 5) : lbK v = 8 ∨ (lbK v = 5 ∧ m ≠ 0) := by
  unfold lbK
  by_cases h : v.lo = 5
  · rw [if_pos h]; exact .inr ⟨rfl, fun e => hm e h⟩
  · rw [if_neg h]; exact .inl rfl

/-- A base, behind a SIB. -/
theorem way3s (hS : SelAll) (ofb : OfB c v sla) (hk : c.kd = 3) {m : Nat} {dl : List AV} (h : DL c v m dl) : WayOK c (valB v) sla (u (24 + m) :: ([u 31] ++ dl), 0, c.hb) := by
  have hB : c.isB = true := by unfold Cfg.isB; rw [hk]; rfl
  have hI : c.isI = false := by unfold Cfg.isI; rw [hk]; rfl
  have hm := dlm h
  have hm5 : m = 0 → v.lo ≠ 5 := dl5 h
  have n2 : @conc (nameS (valB v) sla) E0 (num c.hb 11 c.lb) = .int .i64 (8 * (c.hb : Int) + v.lo) := numB ofb.hb (fun _ => rfl) ofb.lo0 (ofb.lb hB)
  have hlk := lbK_or v
  have eds : RK.dsp ⟨4, m, 0, c.hb, 0, lbK v, 0⟩ = dN m := by rcases hm with rfl | rfl | rfl <;> rfl
  refine wayG (r := ⟨4, m, 0, c.hb, 0, lbK v, 0⟩) (lo := v.lo) (ix := 0) hS ofb (by rw [hk]; decide) (show (4 : Nat) ≠ 0 by decide) (.inr (.inr (.inr (.inr (.inl ⟨rfl, show m ≤ 2 by omega, rfl, ofb.hb, rfl, lbK_in v hm5, rfl⟩))))) (show (4 : Nat) ≤ 6 by decide) ?_ (by rcases lbK_in v hm5 with e | ⟨e, _⟩; exact .inl e; exact .inr (by show lbK v ≤ 7; omega)) (.inr (show (0 : Nat) ≤ 7 by decide)) (show m ≤ 3 by omega) (show (0 : Nat) ≤ 3 by decide)
    (fun hh => absurd hh (show (4 : Nat) ≠ 3 by decide)) (fun h8 _ => lbK_ne v h8) (fun hh => absurd hh (show (0 : Nat) ≠ 8 by decide)) (fun hh => dl8 ofb h (eds.symm.trans hh)) ofb.lo0 (by decide) (fun zs cp sb hd => ?_) (fun zs cp sb hd => ?_) (fun zs cp sb hd => ?_) (fun hh => dl0 ofb h (eds.symm.trans hh))
  · rw [eds, List.map_cons, List.map_append, dlMap ofb h]
    have e31 : @conc (nameS (valB v) sla) E0 (u 31) = .int .u8 (sbOf ⟨4, m, 0, c.hb, 0, lbK v, 0⟩ v.lo 0) := by
      show _ = Value.int .u8 (64 * 0 + 8 * 4 + pv' v.lo (lbK v))
      rw [pv_eq hlk]; rfl
    rw [List.map_cons, e31]
    rcases hm with rfl | rfl | rfl <;> rfl
  · rw [base_eq hB]
    exact mapReg (numR ofb.hb (fun _ => rfl) ofb.lo0 hlk) n2
  · unfold Cfg.index; rw [hI]; rfl
  · unfold Cfg.scale; rw [hI]; rfl

/-- A base as an index. -/
theorem way3l (hS : SelAll) (ofb : OfB c v sla) (hk : c.kd = 3) (hn : ¬ (c.lb = 4 ∧ c.hb = 0)) : WayOK c (valB v) sla ([u 24, u 32] ++ c.d4, c.hb, 0) := by
  have hB : c.isB = true := by unfold Cfg.isB; rw [hk]; rfl
  have hI : c.isI = false := by unfold Cfg.isI; rw [hk]; rfl
  have hb1 := ofb.hb
  have n2 : @conc (nameS (valB v) sla) E0 (num c.hb 11 c.lb) = .int .i64 (8 * (c.hb : Int) + v.lo) := numB ofb.hb (fun _ => rfl) ofb.lo0 (ofb.lb hB)
  have key : ∀ k : Nat, (k = 8 ∨ (k = 4 ∧ c.hb = 1)) → (k = 8 → v.lo ≠ 4) → (k = 8 ∨ v.lo = (k : Int)) → WayOK c (valB v) sla ([u 24, u 32] ++ c.d4, c.hb, 0) := by
    intro k hk1 hk2 hk3
    refine wayG (r := ⟨5, 0, c.hb, 0, 0, 0, k⟩) (lo := 0) (ix := v.lo) hS ofb (by rw [hk]; decide) (show (5 : Nat) ≠ 0 by decide) (.inr (.inr (.inr (.inr (.inr (.inl ⟨rfl, rfl, ofb.hb, rfl, show (0 : Nat) ≤ 3 by decide, rfl, hk1⟩)))))) (show (5 : Nat) ≤ 6 by decide) ?_ (.inr (show (0 : Nat) ≤ 7 by decide)) (by show k = 8 ∨ k ≤ 7; omega) (show (0 : Nat) ≤ 3 by decide) (show (0 : Nat) ≤ 3 by decide)
      (fun h => absurd h (show (5 : Nat) ≠ 3 by decide)) (fun h => absurd h (show (0 : Nat) ≠ 8 by decide)) hk2 (fun h => absurd h (show (4 : Nat) ≠ 1 by decide)) (by decide) ofb.lo0 (fun zs cp sb hd => ?_) (fun zs cp sb hd => ?_) (fun zs cp sb hd => ?_) (fun h => absurd h (show (4 : Nat) ≠ 0 by decide))
    · rw [List.map_append, d4map ofb]
      have e32 : @conc (nameS (valB v) sla) E0 (u 32) = .int .u8 (64 * 0 + 8 * pv' v.lo k + 5) := by
        rw [pv_eq hk3]; rfl
      simp only [List.map_cons, List.map_nil, e32]
      rfl
    · rw [base_eq hB]
      exact mapReg (numR ofb.hb (fun _ => rfl) ofb.lo0 hk3) n2
    · unfold Cfg.index; rw [hI]; rfl
    · unfold Cfg.scale; rw [hI]; rfl
  by_cases h4 : c.lb = 4
  · refine key 4 (.inr ⟨rfl, by omega⟩) (fun e => absurd e (by decide)) (.inr ?_)
    rcases ofb.lb hB with e | e
    · omega
    · rw [e, h4]
  · exact key 8 (.inl rfl) (fun _ => ofb.nb4 hk h4) (.inl rfl)

/-- Both. -/
theorem way5 (hS : SelAll) (ofb : OfB c v sla) (hk : c.kd = 5) {m : Nat} {dl : List AV} (h : DL c v m dl) : WayOK c (valB v) sla (u (24 + m) :: ([u 30] ++ dl), c.hi, c.hb) := by
  have hB : c.isB = true := by unfold Cfg.isB; rw [hk]; rfl
  have hI : c.isI = true := by unfold Cfg.isI; rw [hk]; rfl
  have hm := dlm h
  have hli := ofb.lis hI
  have hs3 := ofb.ss3
  have hm5 : m = 0 → v.lo ≠ 5 := dl5 h
  have n2 : @conc (nameS (valB v) sla) E0 (num c.hb 11 c.lb) = .int .i64 (8 * (c.hb : Int) + v.lo) := numB ofb.hb (fun _ => rfl) ofb.lo0 (ofb.lb hB)
  have n3 : @conc (nameS (valB v) sla) E0 (num c.hi 14 c.li) = .int .i64 (8 * (c.hi : Int) + v.ix) := numB ofb.hi (fun _ => rfl) ofb.ix0 (ofb.li hI)
  have hlk := lbK_or v
  have eds : RK.dsp ⟨6, m, c.hi, c.hb, c.ss, lbK v, c.li⟩ = dN m := by rcases hm with rfl | rfl | rfl <;> rfl
  refine wayG (r := ⟨6, m, c.hi, c.hb, c.ss, lbK v, c.li⟩) (lo := v.lo) (ix := v.ix) hS ofb (by rw [hk]; decide) (show (6 : Nat) ≠ 0 by decide) (.inr (.inr (.inr (.inr (.inr (.inr ⟨rfl, show m ≤ 2 by omega, ofb.hi, ofb.hb, hs3, lbK_in v hm5, hli⟩)))))) (show (6 : Nat) ≤ 6 by decide) ?_ (by rcases lbK_in v hm5 with e | ⟨e, _⟩; exact .inl e; exact .inr (by show lbK v ≤ 7; omega)) (by show c.li = 8 ∨ c.li ≤ 7; omega) (show m ≤ 3 by omega) hs3
    (fun hh => absurd hh (show (6 : Nat) ≠ 3 by decide)) (fun h8 _ => lbK_ne v h8) ofb.ni4 (fun hh => dl8 ofb h (eds.symm.trans hh)) ofb.lo0 ofb.ix0 (fun zs cp sb hd => ?_) (fun zs cp sb hd => ?_) (fun zs cp sb hd => ?_) (fun hh => dl0 ofb h (eds.symm.trans hh))
  · rw [eds, List.map_cons, List.map_append, dlMap ofb h]
    have e30 : @conc (nameS (valB v) sla) E0 (u 30) = .int .u8 (sbOf ⟨6, m, c.hi, c.hb, c.ss, lbK v, c.li⟩ v.lo v.ix) := by
      show _ = Value.int .u8 (64 * (c.ss : Int) + 8 * pv' v.ix c.li + pv' v.lo (lbK v))
      rw [pv_eq hlk, pv_eq (ofb.li hI), ← ofb.ss]; rfl
    rw [List.map_cons, e30]
    rcases hm with rfl | rfl | rfl <;> rfl
  · rw [base_eq hB]
    exact mapReg (numR ofb.hb (fun _ => rfl) ofb.lo0 hlk) n2
  · rw [index_eq hI]
    exact mapReg (numR ofb.hi (fun _ => rfl) ofb.ix0 (ofb.li hI)) n3
  · rw [scaleV hI hs3]
    show @conc (nameS (valR zs cp v.zs.length v.f v.lo v.ix v.d sb hd) sR) E0 (match c.ss with | 0 => Br.ci 1 | 1 => Br.ci 2 | 2 => Br.ci 4 | _ => Br.ci 8) = _
    have : c.ss = 0 ∨ c.ss = 1 ∨ c.ss = 2 ∨ c.ss = 3 := by omega
    rcases this with e | e | e | e <;> rw [e] <;> rfl

/-- Each displacement that may be, of such ways. -/
theorem spreadOK {h x : Nat} {sib : List AV} (h5 : c.lb ≠ 5 → v.lo ≠ 5) (hw : ∀ (m : Nat) (dl : List AV), DL c v m dl → WayOK c (valB v) sla (u (h + m) :: (sib ++ dl), x, c.hb)) : ∀ w ∈ c.spread h sib x, WayOK c (valB v) sla w := by
  intro w hm
  unfold Cfg.spread at hm
  rcases List.mem_append.1 hm with hm | hm
  · cases hb : (Nat.beq c.dk 0 && !Nat.beq c.lb 5) with
    | false => rw [hb] at hm; cases hm
    | true =>
      rw [hb] at hm
      obtain ⟨h0, h1⟩ := Bool.and_eq_true_iff.1 hb
      have h1 : c.lb ≠ 5 := by
        cases he : Nat.beq c.lb 5 with
        | true => rw [he] at h1; cases h1
        | false => exact beqF he
      rcases List.mem_cons.1 hm with rfl | hm
      · have := hw 0 [] (.inl ⟨rfl, rfl, beqT h0, h5 h1⟩)
        rw [List.append_nil] at this
        exact this
      · cases hm
  · rcases List.mem_append.1 hm with hm | hm
    · cases hb : Nat.ble c.dk 1 with
      | false => rw [hb] at hm; cases hm
      | true =>
        rw [hb] at hm
        rcases List.mem_cons.1 hm with rfl | hm
        · exact hw 1 c.d1 (.inr (.inl ⟨rfl, rfl, Nat.le_of_ble_eq_true hb⟩))
        · cases hm
    · rcases List.mem_cons.1 hm with rfl | hm
      · exact hw 2 c.d4 (.inr (.inr ⟨rfl, rfl⟩))
      · cases hm

/-- All ways. -/
theorem waysOK (hS : SelAll) (ofb : OfB c v sla) (h42 : c.kd = 0 → valB v 42 = 8 * (c.hb : Int) + v.lo) (nb5 : c.isB = true → c.lb ≠ 5 → v.lo ≠ 5) : ∀ w ∈ c.ways, WayOK c (valB v) sla w := by
  have hk := ofb.kd
  have hcase : c.kd = 0 ∨ c.kd = 1 ∨ c.kd = 2 ∨ c.kd = 3 ∨ c.kd = 4 ∨ c.kd = 5 := by omega
  intro w hw
  unfold Cfg.ways at hw
  rcases hcase with e | e | e | e | e | e <;> rw [e] at hw
  · rcases List.mem_cons.1 hw with rfl | hw
    · exact way0 hS ofb e (h42 e)
    · cases hw
  · rcases List.mem_cons.1 hw with rfl | hw
    · exact way1 hS ofb e
    · cases hw
  · rcases List.mem_cons.1 hw with rfl | hw
    · exact way2 hS ofb e
    · cases hw
  · have hB : c.isB = true := by unfold Cfg.isB; rw [e]; rfl
    rcases List.mem_append.1 hw with hw | hw
    · cases h4 : Nat.beq c.lb 4 with
      | true => rw [h4] at hw; cases hw
      | false =>
        rw [h4] at hw
        exact spreadOK (h := 20) (x := 0) (sib := []) (nb5 hB) (fun m dl h => way3d hS ofb e (beqF h4) h) w hw
    · rcases List.mem_append.1 hw with hw | hw
      · exact spreadOK (h := 24) (x := 0) (sib := [u 31]) (nb5 hB) (fun m dl h => way3s hS ofb e h) w hw
      · cases hb : (Nat.beq c.lb 4 && Nat.beq c.hb 0) with
        | true => rw [hb] at hw; cases hw
        | false =>
          rw [hb] at hw
          rcases List.mem_cons.1 hw with rfl | hw
          · refine way3l hS ofb e fun ⟨h1, h2⟩ => ?_
            rw [h1, h2] at hb
            cases hb
          · cases hw
  · rcases List.mem_cons.1 hw with rfl | hw
    · exact way4 hS ofb e
    · cases hw
  · have hB : c.isB = true := by unfold Cfg.isB; rw [e]; rfl
    exact spreadOK (h := 24) (x := c.hi) (sib := [u 30]) (nb5 hB) (fun m dl h => way5 hS ofb e h) w hw

/-- The law, by its kind. -/
theorem lawB (hA : BA c) (hS : SelAll) (ofb : OfB c v sla) (h42 : c.kd = 0 → valB v 42 = 8 * (c.hb : Int) + v.lo) (nb5 : c.isB = true → c.lb ≠ 5 → v.lo ≠ 5) : LawO Try.prog 6 (argsB c) (outsB c) sla (valB v) :=
  hA (valB v) sla (preOK ofb) (tPOK ofb.toOfB0) (tMOK ofb.toOfB0) (lslOK (waysOK hS ofb h42 nb5))

end
end Go.Proofs.Ytbenfglhomiocaa.Bak
