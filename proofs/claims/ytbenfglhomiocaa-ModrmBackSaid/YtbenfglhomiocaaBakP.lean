/-
  The law 'ModrmBack': from any operand to its kind.
-/
import Derived.Test.YtbenfglhomiocaaBakN
import Derived.Test.YtbenfglhomiocaaBakC
import Derived.Test.YtbenfglhomiocaaBaeS

namespace Go.Proofs.Ytbenfglhomiocaa.Bak
open Go.Sim Go.Proofs.Ytbenfglhomiocaa.Fld Go.Proofs.Ytbenfglhomiocaa.Tab
set_option maxRecDepth 100000
set_option linter.unusedVariables false

/-- The operand's cells, its kind aside. -/
abbrev cV (cs : List Int) (i : Nat) : Value := .int .i64 (cs.getD i 0)

abbrev argV (k : Int) (cs : List Int) : Value := .agg #[.int .i64 k, cV cs 0, cV cs 1, cV cs 2, cV cs 3, cV cs 4, cV cs 5, cV cs 6, cV cs 7, cV cs 8, cV cs 9]

abbrev memW (b1 b2 i1 i2 s d sz : Int) : Value := .agg #[.int .i64 b1, .int .i64 b2, .int .i64 i1, .int .i64 i2, .int .i64 s, .int .i64 d, .int .i64 sz]

abbrev memC7 (cs : List Int) : Value := .agg #[cV cs 2, cV cs 3, cV cs 4, cV cs 5, cV cs 6, cV cs 7, cV cs 8]

/-- What a place may be, as it is written best. -/
def Place (b1 b2 i1 i2 s : Int) : Prop :=
  (b1 = 0 ∧ b2 = 0 ∧ i1 = 0 ∧ i2 = 0 ∧ s = 0) ∨ (b1 = 8 ∧ b2 = 0 ∧ i1 = 0 ∧ i2 = 0 ∧ s = 0) ∨ (b1 = 5 ∧ (0 ≤ b2 ∧ b2 ≤ 15) ∧ i1 = 0 ∧ i2 = 0 ∧ s = 0) ∨
  (b1 = 0 ∧ b2 = 0 ∧ i1 = 5 ∧ (0 ≤ i2 ∧ i2 ≤ 15) ∧ i2 ≠ 4 ∧ (s = 2 ∨ s = 4 ∨ s = 8)) ∨
  (b1 = 5 ∧ (0 ≤ b2 ∧ b2 ≤ 15) ∧ i1 = 5 ∧ (0 ≤ i2 ∧ i2 ≤ 15) ∧ i2 ≠ 4 ∧ (s = 1 ∨ s = 2 ∨ s = 4 ∨ s = 8))

/-- A place that may be. -/
def MemIs (cs : List Int) : Prop := ∃ b1 b2 i1 i2 s : Int, Place b1 b2 i1 i2 s ∧ (-2147483648 ≤ cs.getD 7 0 ∧ cs.getD 7 0 ≤ 2147483647) ∧ Ret Try.prog 30 [argV 2 cs] (.int .i64 0) ∧
  Ret Try.prog 25 [memC7 cs] (.tuple #[memW b1 b2 i1 i2 s (cs.getD 7 0) (cs.getD 8 0), .int .i64 0])

abbrev val0 (cs : List Int) : Nat → Int := fun k => cs.getD (k - 41) 0

abbrev sla0 : Nat → Option Addr × Nat := fun _ => (none, 0)

theorem scales {val : Nat → Int} (h : SB.eval val (.or (.eq (.a 47) (.c 1)) (.or (.eq (.a 47) (.c 2)) (.or (.eq (.a 47) (.c 4)) (.or (.eq (.a 47) (.c 8)) .ff)))) = true) : val 47 = 1 ∨ val 47 = 2 ∨ val 47 = 4 ∨ val 47 = 8 := by
  simpa [SB.eval, SX.eval] using h

theorem memAny (cs : List Int) : (∃ e : Int, e ≠ 0 ∧ Ret Try.prog 30 [argV 2 cs] (.int .i64 e)) ∨ MemIs cs := by
  rcases anyM (val0 cs) sla0 with h | ⟨F, u, hF, ⟨h1, h2⟩, hm⟩
  · exact .inl h
  · refine .inr ?_
    have q1 : Ret Try.prog 30 [argV 2 cs] (.int .i64 0) := h1
    have qs : u = sameM → Ret Try.prog 25 [memC7 cs] (.tuple #[memW (cs.getD 2 0) (cs.getD 3 0) (cs.getD 4 0) (cs.getD 5 0) (cs.getD 6 0) (cs.getD 7 0) (cs.getD 8 0), .int .i64 0]) := fun e => by subst e; exact h2
    have qb : u = baseM → Ret Try.prog 25 [memC7 cs] (.tuple #[memW (cs.getD 4 0) (cs.getD 5 0) 0 0 0 (cs.getD 7 0) (cs.getD 8 0), .int .i64 0]) := fun e => by subst e; exact h2
    have qw : u = swapM → Ret Try.prog 25 [memC7 cs] (.tuple #[memW (cs.getD 4 0) (cs.getD 5 0) (cs.getD 2 0) (cs.getD 3 0) (cs.getD 6 0) (cs.getD 7 0) (cs.getD 8 0), .int .i64 0]) := fun e => by subst e; exact h2
    clear h1 h2
    simp only [fineF, List.mem_cons, List.not_mem_nil, or_false, Prod.mk.injEq] at hm
    rcases hm with ⟨rfl, rfl⟩ | ⟨rfl, rfl⟩ | ⟨rfl, rfl⟩ | ⟨rfl, rfl⟩ | ⟨rfl, rfl⟩ | ⟨rfl, rfl⟩ | ⟨rfl, rfl⟩ | ⟨rfl, rfl⟩ | ⟨rfl, rfl⟩
    all_goals
      have d1 : cs.getD 7 0 ≤ 2147483647 := hF (.le (.a 48) 2147483647) (by simp)
      have d2 : -2147483648 ≤ cs.getD 7 0 := hF (.ge (.a 48) (-2147483648)) (by simp)
    · have e1 : cs.getD 2 0 = 0 := hF (.is (.a 43) 0) (by simp)
      have e2 : cs.getD 3 0 = 0 := hF (.is (.a 44) 0) (by simp)
      have e3 : cs.getD 4 0 = 0 := hF (.is (.a 45) 0) (by simp)
      have e4 : cs.getD 5 0 = 0 := hF (.is (.a 46) 0) (by simp)
      have e5 : cs.getD 6 0 = 0 := hF (.is (.a 47) 0) (by simp)
      exact ⟨_, _, _, _, _, .inl ⟨e1, e2, e3, e4, e5⟩, ⟨d2, d1⟩, q1, qs rfl⟩
    · have e3 : cs.getD 4 0 = 5 := hF (.is (.a 45) 5) (by simp)
      have e4 : cs.getD 5 0 ≤ 15 := hF (.le (.a 46) 15) (by simp)
      have e5 : 0 ≤ cs.getD 5 0 := hF (.ge (.a 46) 0) (by simp)
      exact ⟨_, _, _, _, _, .inr (.inr (.inl ⟨e3, ⟨e5, e4⟩, rfl, rfl, rfl⟩)), ⟨d2, d1⟩, q1, qb rfl⟩
    · have e3 : cs.getD 4 0 = 5 := hF (.is (.a 45) 5) (by simp)
      have e4 : cs.getD 5 0 ≤ 15 := hF (.le (.a 46) 15) (by simp)
      have e5 : 0 ≤ cs.getD 5 0 := hF (.ge (.a 46) 0) (by simp)
      exact ⟨_, _, _, _, _, .inr (.inr (.inl ⟨e3, ⟨e5, e4⟩, rfl, rfl, rfl⟩)), ⟨d2, d1⟩, q1, qb rfl⟩
    · have e1 : cs.getD 2 0 = 0 := hF (.is (.a 43) 0) (by simp)
      have e2 : cs.getD 3 0 = 0 := hF (.is (.a 44) 0) (by simp)
      have e3 : cs.getD 4 0 = 5 := hF (.is (.a 45) 5) (by simp)
      have e4 : cs.getD 5 0 ≤ 15 := hF (.le (.a 46) 15) (by simp)
      have e5 : 0 ≤ cs.getD 5 0 := hF (.ge (.a 46) 0) (by simp)
      have e6 : cs.getD 5 0 ≠ 4 := hF (.ne (.a 46) 4) (by simp)
      have e7 : cs.getD 6 0 ≠ 1 := hF (.ne (.a 47) 1) (by simp)
      have e8 : cs.getD 6 0 = 1 ∨ cs.getD 6 0 = 2 ∨ cs.getD 6 0 = 4 ∨ cs.getD 6 0 = 8 := scales (val := val0 cs) (hF (.at (.or (.eq (.a 47) (.c 1)) (.or (.eq (.a 47) (.c 2)) (.or (.eq (.a 47) (.c 4)) (.or (.eq (.a 47) (.c 8)) .ff)))) true) (by simp))
      exact ⟨_, _, _, _, _, .inr (.inr (.inr (.inl ⟨e1, e2, e3, ⟨e5, e4⟩, e6, by omega⟩))), ⟨d2, d1⟩, q1, qs rfl⟩
    · have e1 : cs.getD 2 0 = 8 := hF (.is (.a 43) 8) (by simp)
      have e2 : cs.getD 3 0 = 0 := hF (.is (.a 44) 0) (by simp)
      have e3 : cs.getD 4 0 = 0 := hF (.is (.a 45) 0) (by simp)
      have e4 : cs.getD 5 0 = 0 := hF (.is (.a 46) 0) (by simp)
      have e5 : cs.getD 6 0 = 0 := hF (.is (.a 47) 0) (by simp)
      exact ⟨_, _, _, _, _, .inr (.inl ⟨e1, e2, e3, e4, e5⟩), ⟨d2, d1⟩, q1, qs rfl⟩
    · have e1 : cs.getD 2 0 = 5 := hF (.is (.a 43) 5) (by simp)
      have e2 : cs.getD 3 0 ≤ 15 := hF (.le (.a 44) 15) (by simp)
      have e2' : 0 ≤ cs.getD 3 0 := hF (.ge (.a 44) 0) (by simp)
      have e3 : cs.getD 4 0 = 0 := hF (.is (.a 45) 0) (by simp)
      have e4 : cs.getD 5 0 = 0 := hF (.is (.a 46) 0) (by simp)
      have e5 : cs.getD 6 0 = 0 := hF (.is (.a 47) 0) (by simp)
      exact ⟨_, _, _, _, _, .inr (.inr (.inl ⟨e1, ⟨e2', e2⟩, e3, e4, e5⟩)), ⟨d2, d1⟩, q1, qs rfl⟩
    · have e1 : cs.getD 2 0 = 5 := hF (.is (.a 43) 5) (by simp)
      have e2 : cs.getD 3 0 ≤ 15 := hF (.le (.a 44) 15) (by simp)
      have e2' : 0 ≤ cs.getD 3 0 := hF (.ge (.a 44) 0) (by simp)
      have e2n : cs.getD 3 0 ≠ 4 := hF (.ne (.a 44) 4) (by simp)
      have e3 : cs.getD 4 0 = 5 := hF (.is (.a 45) 5) (by simp)
      have e4 : cs.getD 5 0 ≤ 15 := hF (.le (.a 46) 15) (by simp)
      have e5 : 0 ≤ cs.getD 5 0 := hF (.ge (.a 46) 0) (by simp)
      have e7 : cs.getD 6 0 = 1 := hF (.is (.a 47) 1) (by simp)
      exact ⟨_, _, _, _, _, .inr (.inr (.inr (.inr ⟨e3, ⟨e5, e4⟩, e1, ⟨e2', e2⟩, e2n, .inl e7⟩))), ⟨d2, d1⟩, q1, qw rfl⟩
    · have e1 : cs.getD 2 0 = 5 := hF (.is (.a 43) 5) (by simp)
      have e2 : cs.getD 3 0 ≤ 15 := hF (.le (.a 44) 15) (by simp)
      have e2' : 0 ≤ cs.getD 3 0 := hF (.ge (.a 44) 0) (by simp)
      have e3 : cs.getD 4 0 = 5 := hF (.is (.a 45) 5) (by simp)
      have e4 : cs.getD 5 0 ≤ 15 := hF (.le (.a 46) 15) (by simp)
      have e5 : 0 ≤ cs.getD 5 0 := hF (.ge (.a 46) 0) (by simp)
      have e6 : cs.getD 5 0 ≠ 4 := hF (.ne (.a 46) 4) (by simp)
      have e7 : cs.getD 6 0 = 1 := hF (.is (.a 47) 1) (by simp)
      exact ⟨_, _, _, _, _, .inr (.inr (.inr (.inr ⟨e1, ⟨e2', e2⟩, e3, ⟨e5, e4⟩, e6, .inl e7⟩))), ⟨d2, d1⟩, q1, qs rfl⟩
    · have e1 : cs.getD 2 0 = 5 := hF (.is (.a 43) 5) (by simp)
      have e2 : cs.getD 3 0 ≤ 15 := hF (.le (.a 44) 15) (by simp)
      have e2' : 0 ≤ cs.getD 3 0 := hF (.ge (.a 44) 0) (by simp)
      have e3 : cs.getD 4 0 = 5 := hF (.is (.a 45) 5) (by simp)
      have e4 : cs.getD 5 0 ≤ 15 := hF (.le (.a 46) 15) (by simp)
      have e5 : 0 ≤ cs.getD 5 0 := hF (.ge (.a 46) 0) (by simp)
      have e6 : cs.getD 5 0 ≠ 4 := hF (.ne (.a 46) 4) (by simp)
      have e8 : cs.getD 6 0 = 1 ∨ cs.getD 6 0 = 2 ∨ cs.getD 6 0 = 4 ∨ cs.getD 6 0 = 8 := scales (val := val0 cs) (hF (.at (.or (.eq (.a 47) (.c 1)) (.or (.eq (.a 47) (.c 2)) (.or (.eq (.a 47) (.c 4)) (.or (.eq (.a 47) (.c 8)) .ff)))) true) (by simp))
      exact ⟨_, _, _, _, _, .inr (.inr (.inr (.inr ⟨e1, ⟨e2', e2⟩, e3, ⟨e5, e4⟩, e6, e8⟩))), ⟨d2, d1⟩, q1, qs rfl⟩

theorem memV {c : Cfg} {v : V} {sla : Nat → Option Addr × Nat} {b1 b2 i1 i2 s : Int} (hb : c.base.map (@conc (nameS (valB v) sla) E0) = [.int .i64 b1, .int .i64 b2]) (hi : c.index.map (@conc (nameS (valB v) sla) E0) = [.int .i64 i1, .int .i64 i2]) (hs : @conc (nameS (valB v) sla) E0 c.scale = .int .i64 s)
    (dz : c.dk = 0 → v.d = 0) : @conc (nameS (valB v) sla) E0 (.tup [.agg (c.mem (a 7)), ci 0]) = .tuple #[memW b1 b2 i1 i2 s v.d v.sz, .int .i64 0] := by
  have hd : @conc (nameS (valB v) sla) E0 c.disp = .int .i64 v.d := by
    unfold Cfg.disp
    split
    · rename_i h; rw [dz h]; rfl
    · rfl
  unfold Cfg.mem
  simp only [conc, concs, concs_eq, List.map_append, List.map_cons, List.map_nil, hb, hi, hs, hd]
  rfl

section
variable {v : V} {sla : Nat → Option Addr × Nat} {ah be : Bool}

theorem dkD_z {d : Int} : dkD d = 0 → d = 0 := by
  unfold dkD
  split
  · intro _; assumption
  · intro h; cases h

theorem dkD_n {d : Int} : dkD d ≠ 0 → d ≠ 0 := by
  unfold dkD
  split
  · intro h; exact absurd rfl h
  · intro _; assumption

theorem dkD_1 {d : Int} : dkD d ≠ 1 := by
  unfold dkD
  split <;> decide

theorem dkB_z {d : Int} : dkB d = 0 → d = 0 := by
  unfold dkB
  split
  · intro _; assumption
  · split <;> intro h <;> cases h

theorem dkB_n {d : Int} : dkB d ≠ 0 → d ≠ 0 := by
  unfold dkB
  split
  · intro h; exact absurd rfl h
  · intro _; assumption

theorem dkB_1 {d : Int} : dkB d = 1 → fits8 d := by
  unfold dkB
  split
  · intro h; cases h
  · split
    · intro _; assumption
    · intro h; cases h

theorem dkB_2 {d : Int} : dkB d ≠ 0 → dkB d ≠ 1 → ¬ fits8 d := by
  unfold dkB
  split
  · intro h; exact absurd rfl h
  · split
    · intro _ h; exact absurd rfl h
    · intro _ _; assumption

theorem lbOf3_p (lo : Int) : (lbOf3 lo = 8 ∧ lo ≠ 4 ∧ lo ≠ 5) ∨ (lbOf3 lo = 4 ∧ lo = 4) ∨ (lbOf3 lo = 5 ∧ lo = 5) := by
  unfold lbOf3
  split
  · exact .inr (.inl ⟨rfl, by assumption⟩)
  · split
    · exact .inr (.inr ⟨rfl, by assumption⟩)
    · exact .inl ⟨rfl, by assumption, by assumption⟩

theorem lbOf5_p (lo : Int) : (lbOf5 lo = 8 ∧ lo ≠ 5) ∨ (lbOf5 lo = 5 ∧ lo = 5) := by
  unfold lbOf5
  split
  · exact .inr ⟨rfl, by assumption⟩
  · exact .inl ⟨rfl, by assumption⟩

theorem liOf_p (hi : Nat) (ix : Int) (h : 8 * (hi : Int) + ix ≠ 4) (h1 : hi ≤ 1) : (liOf hi ix = 8 ∧ ix ≠ 4) ∨ (liOf hi ix = 4 ∧ ix = 4 ∧ hi = 1) := by
  unfold liOf
  split
  · rename_i e; exact .inr ⟨rfl, e⟩
  · rename_i e; exact .inl ⟨rfl, by omega⟩

/-- The call of Check, the call of Canon. -/
structure Calls2 (v : V) (b1 b2 i1 i2 s : Int) : Prop where
  chk : Ret Try.prog 30 [argV 2 v.cells] (.int .i64 0)
  can : Ret Try.prog 25 [memC7 v.cells] (.tuple #[memW b1 b2 i1 i2 s v.d v.sz, .int .i64 0])

/-- What is known of all. -/
structure Num (v : V) : Prop where
  f0 : 0 ≤ v.f ∧ v.f ≤ 7
  lo0 : 0 ≤ v.lo ∧ v.lo ≤ 7
  ix0 : 0 ≤ v.ix ∧ v.ix ≤ 7
  d0 : -2147483648 ≤ v.d ∧ v.d ≤ 2147483647

/-- Nothing but a displacement. -/
theorem of1 (n : Num v) (hs : v.ss = 0) (k : Calls2 v 0 0 0 0 0) : OfB0 ⟨1, 0, 0, 0, 0, 0, dkD v.d, ah, be⟩ v sla where
  kd := by show (1 : Nat) ≤ 5; decide
  f0 := n.f0
  lo0 := n.lo0
  ix0 := n.ix0
  hb := by show (0 : Nat) ≤ 1; decide
  hi := by show (0 : Nat) ≤ 1; decide
  ss3 := by show (0 : Nat) ≤ 3; decide
  ss := hs
  lb := fun h => absurd h (by show ¬ (Nat.beq 1 3 || Nat.beq 1 5) = true; decide)
  li := fun h => absurd h (by show ¬ (Nat.beq 1 4 || Nat.beq 1 5) = true; decide)
  lbs := fun h => absurd h (by show ¬ (Nat.beq 1 3 || Nat.beq 1 5) = true; decide)
  lis := fun h => absurd h (by show ¬ (Nat.beq 1 4 || Nat.beq 1 5) = true; decide)
  ss4 := fun h => absurd h (by show ¬ (1 : Nat) = 4; decide)
  ne4 := fun h => absurd h (by show ¬ (0 : Nat) = 8; decide)
  ne5 := fun h => absurd h (by show ¬ (0 : Nat) = 8; decide)
  ni4 := fun h => absurd h (by show ¬ (0 : Nat) = 8; decide)
  nb4 := fun h => absurd h (by show ¬ (1 : Nat) = 3; decide)
  d0 := n.d0
  dz := dkD_z
  dn := dkD_n
  d8 := fun h => absurd h dkD_1
  db := fun h => absurd h (by show ¬ (Nat.beq 1 3 || Nat.beq 1 5) = true; decide)
  chk := k.chk
  can := fun _ => by
    rw [memV (c := ⟨1, 0, 0, 0, 0, 0, dkD v.d, ah, be⟩) (b1 := 0) (b2 := 0) (i1 := 0) (i2 := 0) (s := 0) rfl rfl rfl dkD_z]
    exact k.can
  low := fun h => absurd h (by show ¬ (1 : Nat) = 0; decide)
  high := fun h => absurd h (by show ¬ (1 : Nat) = 0; decide)

/-- rip. -/
theorem of2 (n : Num v) (hs : v.ss = 0) (k : Calls2 v 8 0 0 0 0) : OfB0 ⟨2, 0, 0, 0, 0, 0, dkD v.d, ah, be⟩ v sla where
  kd := by show (2 : Nat) ≤ 5; decide
  f0 := n.f0
  lo0 := n.lo0
  ix0 := n.ix0
  hb := by show (0 : Nat) ≤ 1; decide
  hi := by show (0 : Nat) ≤ 1; decide
  ss3 := by show (0 : Nat) ≤ 3; decide
  ss := hs
  lb := fun h => absurd h (by show ¬ (Nat.beq 2 3 || Nat.beq 2 5) = true; decide)
  li := fun h => absurd h (by show ¬ (Nat.beq 2 4 || Nat.beq 2 5) = true; decide)
  lbs := fun h => absurd h (by show ¬ (Nat.beq 2 3 || Nat.beq 2 5) = true; decide)
  lis := fun h => absurd h (by show ¬ (Nat.beq 2 4 || Nat.beq 2 5) = true; decide)
  ss4 := fun h => absurd h (by show ¬ (2 : Nat) = 4; decide)
  ne4 := fun h => absurd h (by show ¬ (0 : Nat) = 8; decide)
  ne5 := fun h => absurd h (by show ¬ (0 : Nat) = 8; decide)
  ni4 := fun h => absurd h (by show ¬ (0 : Nat) = 8; decide)
  nb4 := fun h => absurd h (by show ¬ (2 : Nat) = 3; decide)
  d0 := n.d0
  dz := dkD_z
  dn := dkD_n
  d8 := fun h => absurd h dkD_1
  db := fun h => absurd h (by show ¬ (Nat.beq 2 3 || Nat.beq 2 5) = true; decide)
  chk := k.chk
  can := fun _ => by
    rw [memV (c := ⟨2, 0, 0, 0, 0, 0, dkD v.d, ah, be⟩) (b1 := 8) (b2 := 0) (i1 := 0) (i2 := 0) (s := 0) rfl rfl rfl dkD_z]
    exact k.can
  low := fun h => absurd h (by show ¬ (2 : Nat) = 0; decide)
  high := fun h => absurd h (by show ¬ (2 : Nat) = 0; decide)

theorem regV {q j n : Nat} {m : Int} {val : Nat → Int} (h : @conc (nameS val sla) E0 (num q j n) = .int .i64 m) : [ci 5, num q j n].map (@conc (nameS val sla) E0) = [.int .i64 5, .int .i64 m] := by
  simp only [List.map_cons, List.map_nil, h]
  rfl

/-- A base. -/
theorem of3 (n : Num v) {hb : Nat} (hb1 : hb ≤ 1) (hs : v.ss = 0) (k : Calls2 v 5 (8 * (hb : Int) + v.lo) 0 0 0) : OfB0 ⟨3, hb, lbOf3 v.lo, 0, 0, 0, dkB v.d, ah, be⟩ v sla where
  kd := by show (3 : Nat) ≤ 5; decide
  f0 := n.f0
  lo0 := n.lo0
  ix0 := n.ix0
  hb := hb1
  hi := by show (0 : Nat) ≤ 1; decide
  ss3 := by show (0 : Nat) ≤ 3; decide
  ss := hs
  lb := fun _ => by have := lbOf3_p v.lo; show lbOf3 v.lo = 8 ∨ v.lo = (lbOf3 v.lo : Int); omega
  li := fun h => absurd h (by show ¬ (Nat.beq 3 4 || Nat.beq 3 5) = true; decide)
  lbs := fun _ => by have := lbOf3_p v.lo; show lbOf3 v.lo = 8 ∨ lbOf3 v.lo = 4 ∨ lbOf3 v.lo = 5; omega
  lis := fun h => absurd h (by show ¬ (Nat.beq 3 4 || Nat.beq 3 5) = true; decide)
  ss4 := fun h => absurd h (by show ¬ (3 : Nat) = 4; decide)
  ne4 := fun h _ => by have := lbOf3_p v.lo; have h : lbOf3 v.lo = 8 := h; omega
  ne5 := fun h _ => by have := lbOf3_p v.lo; have h : lbOf3 v.lo = 8 := h; omega
  ni4 := fun h => absurd h (by show ¬ (0 : Nat) = 8; decide)
  nb4 := fun _ h => by have := lbOf3_p v.lo; have h : lbOf3 v.lo ≠ 4 := h; omega
  d0 := n.d0
  dz := dkB_z
  dn := dkB_n
  d8 := dkB_1
  db := fun _ => dkB_2
  chk := k.chk
  can := fun _ => by
    have l := lbOf3_p v.lo
    have nb : @conc (nameS (valB v) sla) E0 (num hb 11 (lbOf3 v.lo)) = .int .i64 (8 * (hb : Int) + v.lo) := numB hb1 (fun _ => rfl) n.lo0 (by omega)
    rw [memV (c := ⟨3, hb, lbOf3 v.lo, 0, 0, 0, dkB v.d, ah, be⟩) (b1 := 5) (b2 := 8 * (hb : Int) + v.lo) (i1 := 0) (i2 := 0) (s := 0) (regV nb) rfl rfl dkB_z]
    exact k.can
  low := fun h => absurd h (by show ¬ (3 : Nat) = 0; decide)
  high := fun h => absurd h (by show ¬ (3 : Nat) = 0; decide)

def scF (ss : Nat) : AV := match ss with | 0 => ci 1 | 1 => ci 2 | 2 => ci 4 | _ => ci 8

theorem scV {val : Nat → Int} {ss : Nat} (h : ss ≤ 3) : @conc (nameS val sla) E0 (scF ss) = .int .i64 (2 ^ ss) := by
  have : ss = 0 ∨ ss = 1 ∨ ss = 2 ∨ ss = 3 := by omega
  rcases this with rfl | rfl | rfl | rfl <;> rfl

/-- An index alone. -/
theorem of4 (n : Num v) {hi ss : Nat} (hi1 : hi ≤ 1) (s3 : ss ≤ 3) (s0 : ss ≠ 0) (hs : v.ss = (ss : Int)) (h4 : 8 * (hi : Int) + v.ix ≠ 4) (k : Calls2 v 0 0 5 (8 * (hi : Int) + v.ix) (2 ^ ss)) : OfB0 ⟨4, 0, 0, hi, liOf hi v.ix, ss, dkD v.d, ah, be⟩ v sla where
  kd := by show (4 : Nat) ≤ 5; decide
  f0 := n.f0
  lo0 := n.lo0
  ix0 := n.ix0
  hb := by show (0 : Nat) ≤ 1; decide
  hi := hi1
  ss3 := s3
  ss := hs
  lb := fun h => absurd h (by show ¬ (Nat.beq 4 3 || Nat.beq 4 5) = true; decide)
  li := fun _ => by have := liOf_p hi v.ix h4 hi1; show liOf hi v.ix = 8 ∨ v.ix = (liOf hi v.ix : Int); omega
  lbs := fun h => absurd h (by show ¬ (Nat.beq 4 3 || Nat.beq 4 5) = true; decide)
  lis := fun _ => by have := liOf_p hi v.ix h4 hi1; show liOf hi v.ix = 8 ∨ (liOf hi v.ix = 4 ∧ hi = 1); omega
  ss4 := fun _ => s0
  ne4 := fun h => absurd h (by show ¬ (0 : Nat) = 8; decide)
  ne5 := fun h => absurd h (by show ¬ (0 : Nat) = 8; decide)
  ni4 := fun h => by have := liOf_p hi v.ix h4 hi1; have h : liOf hi v.ix = 8 := h; omega
  nb4 := fun h => absurd h (by show ¬ (4 : Nat) = 3; decide)
  d0 := n.d0
  dz := dkD_z
  dn := dkD_n
  d8 := fun h => absurd h dkD_1
  db := fun h => absurd h (by show ¬ (Nat.beq 4 3 || Nat.beq 4 5) = true; decide)
  chk := k.chk
  can := fun _ => by
    have l := liOf_p hi v.ix h4 hi1
    have ni : @conc (nameS (valB v) sla) E0 (num hi 14 (liOf hi v.ix)) = .int .i64 (8 * (hi : Int) + v.ix) := numB hi1 (fun _ => rfl) n.ix0 (by omega)
    rw [memV (c := ⟨4, 0, 0, hi, liOf hi v.ix, ss, dkD v.d, ah, be⟩) (b1 := 0) (b2 := 0) (i1 := 5) (i2 := 8 * (hi : Int) + v.ix) (s := 2 ^ ss) rfl (regV ni) (scV s3) dkD_z]
    exact k.can
  low := fun h => absurd h (by show ¬ (4 : Nat) = 0; decide)
  high := fun h => absurd h (by show ¬ (4 : Nat) = 0; decide)

/-- Both. -/
theorem of5 (n : Num v) {hb hi ss : Nat} (hb1 : hb ≤ 1) (hi1 : hi ≤ 1) (s3 : ss ≤ 3) (hs : v.ss = (ss : Int)) (h4 : 8 * (hi : Int) + v.ix ≠ 4) (k : Calls2 v 5 (8 * (hb : Int) + v.lo) 5 (8 * (hi : Int) + v.ix) (2 ^ ss)) : OfB0 ⟨5, hb, lbOf5 v.lo, hi, liOf hi v.ix, ss, dkB v.d, ah, be⟩ v sla where
  kd := by show (5 : Nat) ≤ 5; decide
  f0 := n.f0
  lo0 := n.lo0
  ix0 := n.ix0
  hb := hb1
  hi := hi1
  ss3 := s3
  ss := hs
  lb := fun _ => by have := lbOf5_p v.lo; show lbOf5 v.lo = 8 ∨ v.lo = (lbOf5 v.lo : Int); omega
  li := fun _ => by have := liOf_p hi v.ix h4 hi1; show liOf hi v.ix = 8 ∨ v.ix = (liOf hi v.ix : Int); omega
  lbs := fun _ => by have := lbOf5_p v.lo; show lbOf5 v.lo = 8 ∨ lbOf5 v.lo = 4 ∨ lbOf5 v.lo = 5; omega
  lis := fun _ => by have := liOf_p hi v.ix h4 hi1; show liOf hi v.ix = 8 ∨ (liOf hi v.ix = 4 ∧ hi = 1); omega
  ss4 := fun h => absurd h (by show ¬ (5 : Nat) = 4; decide)
  ne4 := fun _ h => absurd h (by show ¬ (5 : Nat) = 3; decide)
  ne5 := fun h _ => by have := lbOf5_p v.lo; have h : lbOf5 v.lo = 8 := h; omega
  ni4 := fun h => by have := liOf_p hi v.ix h4 hi1; have h : liOf hi v.ix = 8 := h; omega
  nb4 := fun h => absurd h (by show ¬ (5 : Nat) = 3; decide)
  d0 := n.d0
  dz := dkB_z
  dn := dkB_n
  d8 := dkB_1
  db := fun _ => dkB_2
  chk := k.chk
  can := fun _ => by
    have l := lbOf5_p v.lo
    have li := liOf_p hi v.ix h4 hi1
    have nb : @conc (nameS (valB v) sla) E0 (num hb 11 (lbOf5 v.lo)) = .int .i64 (8 * (hb : Int) + v.lo) := numB hb1 (fun _ => rfl) n.lo0 (by omega)
    have ni : @conc (nameS (valB v) sla) E0 (num hi 14 (liOf hi v.ix)) = .int .i64 (8 * (hi : Int) + v.ix) := numB hi1 (fun _ => rfl) n.ix0 (by omega)
    rw [memV (c := ⟨5, hb, lbOf5 v.lo, hi, liOf hi v.ix, ss, dkB v.d, ah, be⟩) (b1 := 5) (b2 := 8 * (hb : Int) + v.lo) (i1 := 5) (i2 := 8 * (hi : Int) + v.ix) (s := 2 ^ ss) (regV nb) (regV ni) (scV s3) dkB_z]
    exact k.can
  low := fun h => absurd h (by show ¬ (5 : Nat) = 0; decide)
  high := fun h => absurd h (by show ¬ (5 : Nat) = 0; decide)

/-- A register. -/
theorem of0 (n : Num v) {hb : Nat} (hb1 : hb ≤ 1) (hs : v.ss = 0) (hd : v.d = 1) (chk : Ret Try.prog 30 [argV 1 v.cells] (.int .i64 0)) (lw : Ret Try.prog 32 [.agg #[cV v.cells 0, cV v.cells 1]] (.int .i64 v.lo)) (hg : Ret Try.prog 33 [.agg #[cV v.cells 0, cV v.cells 1]] (.int .i64 (hb : Int))) : OfB0 ⟨0, hb, 8, 0, 0, 0, 2, ah, be⟩ v sla where
  kd := by show (0 : Nat) ≤ 5; decide
  f0 := n.f0
  lo0 := n.lo0
  ix0 := n.ix0
  hb := hb1
  hi := by show (0 : Nat) ≤ 1; decide
  ss3 := by show (0 : Nat) ≤ 3; decide
  ss := hs
  lb := fun h => absurd h (by show ¬ (Nat.beq 0 3 || Nat.beq 0 5) = true; decide)
  li := fun h => absurd h (by show ¬ (Nat.beq 0 4 || Nat.beq 0 5) = true; decide)
  lbs := fun h => absurd h (by show ¬ (Nat.beq 0 3 || Nat.beq 0 5) = true; decide)
  lis := fun h => absurd h (by show ¬ (Nat.beq 0 4 || Nat.beq 0 5) = true; decide)
  ss4 := fun h => absurd h (by show ¬ (0 : Nat) = 4; decide)
  ne4 := fun _ h => absurd h (by show ¬ (0 : Nat) = 3; decide)
  ne5 := fun _ h => absurd rfl h
  ni4 := fun h => absurd h (by show ¬ (0 : Nat) = 8; decide)
  nb4 := fun h => absurd h (by show ¬ (0 : Nat) = 3; decide)
  d0 := n.d0
  dz := fun h => absurd h (by show ¬ (2 : Nat) = 0; decide)
  dn := fun _ => by rw [hd]; decide
  d8 := fun h => absurd h (by show ¬ (2 : Nat) = 1; decide)
  db := fun h => absurd h (by show ¬ (Nat.beq 0 3 || Nat.beq 0 5) = true; decide)
  chk := chk
  can := fun h => absurd rfl h
  low := fun _ => lw
  high := fun _ => hg

end
end Go.Proofs.Ytbenfglhomiocaa.Bak
