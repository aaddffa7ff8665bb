/-
  The law 'ModrmBack': from numbers to names.
-/
import Derived.Test.YtbenfglhomiocaaBakH
import Derived.Test.YtbenfglhomiocaaFndC

namespace Go.Proofs.Ytbenfglhomiocaa.Bak
open Go.Sim Go.Proofs.Ytbenfglhomiocaa.Fld Go.Proofs.Ytbenfglhomiocaa.Tab
open Go.Proofs.Ytbenfglhomiocaa.Fnd (join31 low32 high33 put1 put4 IC)
set_option maxRecDepth 100000
set_option linter.unusedVariables false

abbrev bO (n : Int) (i : Nat) : Int := Go.Proofs.Ytbenfglhomiocaa.Fnd.byteOf n i

/-- What is handed in, by numbers: the bytes ahead and behind, how far these reach, the field, low parts of base and index, displacement, size, scale's number, cut; the operand's cells. -/
structure V where
  zs : List Int
  ys : List Int
  c1 : Int
  c2 : Int
  f : Int
  lo : Int
  ix : Int
  d : Int
  sz : Int
  ss : Int
  cut : Int
  cells : List Int

/-- What the names stand for. -/
abbrev valB (v : V) : Nat → Int := fun k => if k < 100 then
  (match k with
  | 1 => (v.zs.length : Int)
  | 2 => v.c1
  | 3 => (v.ys.length : Int)
  | 4 => v.c2
  | 6 => v.d
  | 7 => v.sz
  | 8 => v.cut
  | 10 => v.f
  | 11 => v.lo
  | 14 => v.ix
  | 20 => 64 * 0 + 8 * v.f + v.lo
  | 21 => 64 * 1 + 8 * v.f + v.lo
  | 22 => 64 * 2 + 8 * v.f + v.lo
  | 23 => 64 * 3 + 8 * v.f + v.lo
  | 24 => 64 * 0 + 8 * v.f + 4
  | 25 => 64 * 1 + 8 * v.f + 4
  | 26 => 64 * 2 + 8 * v.f + 4
  | 28 => 64 * 0 + 8 * v.f + 5
  | 30 => 64 * v.ss + 8 * v.ix + v.lo
  | 31 => 64 * 0 + 8 * 4 + v.lo
  | 32 => 64 * 0 + 8 * v.lo + 5
  | 34 => 64 * v.ss + 8 * v.ix + 5
  | 60 => bO v.d 0
  | 61 => bO v.d 0
  | 62 => bO v.d 1
  | 63 => bO v.d 2
  | 64 => bO v.d 3
  | 72 => v.cut % 2
  | 73 => v.cut % 3
  | 75 => v.cut % 5
  | 76 => v.cut % 6
  | _ => v.cells.getD (k - 41) 0)
  else (if k < 200 then v.zs.getD (k - 100) 0 else v.ys.getD (k - 200) 0)

def fits8 (d : Int) : Prop := -128 ≤ d ∧ d ≤ 127

/-- The numbers are of this kind. -/
structure OfB0 (c : Cfg) (v : V) (sla : Nat → Option Addr × Nat) : Prop where
  kd : c.kd ≤ 5
  f0 : 0 ≤ v.f ∧ v.f ≤ 7
  lo0 : 0 ≤ v.lo ∧ v.lo ≤ 7
  ix0 : 0 ≤ v.ix ∧ v.ix ≤ 7
  hb : c.hb ≤ 1
  hi : c.hi ≤ 1
  ss3 : c.ss ≤ 3
  ss : v.ss = (c.ss : Int)
  lb : c.isB = true → c.lb = 8 ∨ v.lo = (c.lb : Int)
  li : c.isI = true → c.li = 8 ∨ v.ix = (c.li : Int)
  lbs : c.isB = true → c.lb = 8 ∨ c.lb = 4 ∨ c.lb = 5
  lis : c.isI = true → c.li = 8 ∨ (c.li = 4 ∧ c.hi = 1)
  ss4 : c.kd = 4 → c.ss ≠ 0
  ne4 : c.lb = 8 → c.kd = 3 → v.lo ≠ 4
  ne5 : c.lb = 8 → c.kd ≠ 0 → v.lo ≠ 5
  ni4 : c.li = 8 → v.ix ≠ 4
  nb4 : c.kd = 3 → c.lb ≠ 4 → v.lo ≠ 4
  d0 : -2147483648 ≤ v.d ∧ v.d ≤ 2147483647
  dz : c.dk = 0 → v.d = 0
  dn : c.dk ≠ 0 → v.d ≠ 0
  d8 : c.dk = 1 → fits8 v.d
  db : c.isB = true → c.dk ≠ 0 → c.dk ≠ 1 → ¬ fits8 v.d
  chk : Ret Try.prog 30 [@conc (nameS (valB v) sla) E0 c.arg] (.int .i64 0)
  can : c.kd ≠ 0 → Ret Try.prog 25 [@conc (nameS (valB v) sla) E0 (.agg [a 43, a 44, a 45, a 46, a 47, a 48, a 49])] (@conc (nameS (valB v) sla) E0 (.tup [.agg (c.mem (a 7)), ci 0]))
  low : c.kd = 0 → Ret Try.prog 32 [@conc (nameS (valB v) sla) E0 (.agg [a 41, a 42])] (.int .i64 v.lo)
  high : c.kd = 0 → Ret Try.prog 33 [@conc (nameS (valB v) sla) E0 (.agg [a 41, a 42])] (.int .i64 (c.hb : Int))

/-- The slices too are of this kind. -/
structure OfB (c : Cfg) (v : V) (sla : Nat → Option Addr × Nat) : Prop extends OfB0 c v sla where
  ah : c.ah = true → 1 ≤ v.zs.length ∧ v.zs.length ≤ 30
  an : c.ah = false → v.zs.length = 0
  be : c.be = true → 1 ≤ v.ys.length ∧ v.ys.length ≤ 30
  bn : c.be = false → v.ys.length = 0

section
variable {c : Cfg} {v : V} {sla : Nat → Option Addr × Nat}

theorem tNil {val : Nat → Int} : TabOK Try.prog val sla [] := fun _ hy => by cases hy

theorem tCons {val : Nat → Int} {g : FuncId} {args : List AV} {u : AV} {tab : List (FuncId × List AV × AV)} (h : Ret Try.prog g (@concs (nameS val sla) E0 args) (@conc (nameS val sla) E0 u)) (ht : TabOK Try.prog val sla tab) : TabOK Try.prog val sla ((g, args, u) :: tab) := by
  intro y hy
  rcases List.mem_cons.1 hy with rfl | hy
  · exact h
  · exact ht y hy

theorem tApp {val : Nat → Int} {l l' : List (FuncId × List AV × AV)} (h : TabOK Try.prog val sla l) (h' : TabOK Try.prog val sla l') : TabOK Try.prog val sla (l ++ l') := by
  intro y hy
  rcases List.mem_append.1 hy with hy | hy
  · exact h y hy
  · exact h' y hy

theorem tCond {val : Nat → Int} {b : Bool} {l : List (FuncId × List AV × AV)} (h : b = true → TabOK Try.prog val sla l) : TabOK Try.prog val sla (cond b l []) := by
  cases b
  · exact tNil
  · exact h rfl

theorem tNot {val : Nat → Int} {b : Bool} {l : List (FuncId × List AV × AV)} (h : b = false → TabOK Try.prog val sla l) : TabOK Try.prog val sla (cond b [] l) := by
  cases b
  · exact h rfl
  · exact tNil

theorem beqT {m n : Nat} (h : Nat.beq m n = true) : m = n := Nat.eq_of_beq_eq_true h

theorem beqF {m n : Nat} (h : Nat.beq m n = false) : m ≠ n := fun e => by rw [e, Nat.beq_refl] at h; cases h

/-- A part: a name or a number. -/
theorem pcB {val : Nat → Int} {k n : Nat} {m : Int} (hv : val k = m) (h : n = 8 ∨ m = (n : Int)) : @conc (nameS val sla) E0 (pc k n) = .int .i64 m := by
  unfold pc
  split
  · show Value.int .i64 (val k) = _
    rw [hv]
  · rename_i h8
    rcases h with h | h
    · exact absurd h (by simpa using h8)
    · rw [h]; rfl

/-- The byte of three fields. -/
theorem jB {val : Nat → Int} {x y z : AV} {m f r : Int} {b : Nat} (hx : @conc (nameS val sla) E0 x = .int .i64 m) (hy : @conc (nameS val sla) E0 y = .int .i64 f) (hz : @conc (nameS val sla) E0 z = .int .i64 r) (hm : 0 ≤ m ∧ m ≤ 3) (hf : 0 ≤ f ∧ f ≤ 7) (hr : 0 ≤ r ∧ r ≤ 7)
    (hb : val b = 64 * m + 8 * f + r) : Ret Try.prog 31 (@concs (nameS val sla) E0 [x, y, z]) (@conc (nameS val sla) E0 (u b)) := by
  have s := join31 m f r hm hf hr
  have e : @concs (nameS val sla) E0 [x, y, z] = [.int .i64 m, .int .i64 f, .int .i64 r] := by simp only [concs, hx, hy, hz]
  have e' : @conc (nameS val sla) E0 (u b) = .int .u8 (64 * m + 8 * f + r) := by rw [← hb]; rfl
  rw [e, e']
  exact s

/-- Low and High of a register of R64. -/
theorem rgB {val : Nat → Int} {q k n : Nat} {m : Int} (hq : q ≤ 1) (hv : val k = m) (hm : 0 ≤ m ∧ m ≤ 7) (h : n = 8 ∨ m = (n : Int)) : TabOK Try.prog val sla (rgT [ci 5, num q k n] q (pc k n)) := by
  have e : @concs (nameS val sla) E0 [.agg [ci 5, num q k n]] = [.agg #[.int .i64 5, .int .i64 (8 * q + m : Int)]] := by
    unfold num
    split
    · have w : IntKind.i64.wrap (((8 * q : Nat) : Int) + val k) = 8 * q + m := by rw [wrapI, hv]; omega
      rw [← w]; rfl
    · rename_i h8
      rcases h with h | h
      · exact absurd h (by simpa using h8)
      · have w : ((8 * q + n : Nat) : Int) = 8 * q + m := by omega
        rw [← w]; rfl
  have l := low32 5 (.inl rfl) (8 * q + m) (by omega)
  have g := high33 5 (.inl rfl) (8 * q + m) (by omega)
  rw [show (8 * (q : Int) + m) % 8 = m by omega] at l
  rw [show (8 * (q : Int) + m) / 8 = q by omega] at g
  refine tCons ?_ (tCons ?_ tNil)
  · rw [e, pcB hv h]; exact l
  · rw [e]; exact g

theorem pick20_2 (x : Int) : Ret Try.prog 20 [.int .i64 x, .int .i64 2] (.int .i64 (x % 2)) := by
  by_cases h : 0 ≤ x.tmod 2
  · have k := retV (val := fun _ => x) (F := [.ge (.rem (.a 0) 2) 0]) (holds_cons (show 0 ≤ x.tmod 2 from h) holds_nil) (tab := []) tabNil rfl rfl (f := 20) (args := [.sx .i64 (.a 0), .v (.int .i64 2)]) (v := .sx .i64 (.rem (.a 0) 2)) (by kernel_rfl) (by kernel_rfl) (by kernel_rfl)
    have e : x.tmod 2 = x % 2 := by rw [Int.tmod_eq_emod]; split <;> rw [Int.tmod_eq_emod] at h <;> split at h <;> omega
    rw [← e]
    exact k
  · have k := retV (val := fun _ => x) (F := [.le (.rem (.a 0) 2) (-1)]) (holds_cons (show x.tmod 2 ≤ -1 by omega) holds_nil) (tab := []) tabNil rfl rfl (f := 20) (args := [.sx .i64 (.a 0), .v (.int .i64 2)]) (v := .sx .i64 (.wrap .i64 (.add (.rem (.a 0) 2) (.c 2)))) (by kernel_rfl) (by kernel_rfl) (by kernel_rfl)
    have b : -2 < x.tmod 2 := by have := Int.lt_tmod_of_pos x (show (0 : Int) < 2 by decide); omega
    have e : IntKind.i64.wrap (x.tmod 2 + 2) = x % 2 := by
      rw [wrapI, Int.tmod_eq_emod]
      rw [Int.tmod_eq_emod] at h b
      split at h <;> split <;> omega
    rw [← e]
    exact k

theorem pick20_3 (x : Int) : Ret Try.prog 20 [.int .i64 x, .int .i64 3] (.int .i64 (x % 3)) := by
  by_cases h : 0 ≤ x.tmod 3
  · have k := retV (val := fun _ => x) (F := [.ge (.rem (.a 0) 3) 0]) (holds_cons (show 0 ≤ x.tmod 3 from h) holds_nil) (tab := []) tabNil rfl rfl (f := 20) (args := [.sx .i64 (.a 0), .v (.int .i64 3)]) (v := .sx .i64 (.rem (.a 0) 3)) (by kernel_rfl) (by kernel_rfl) (by kernel_rfl)
    have e : x.tmod 3 = x % 3 := by rw [Int.tmod_eq_emod]; split <;> rw [Int.tmod_eq_emod] at h <;> split at h <;> omega
    rw [← e]
    exact k
  · have k := retV (val := fun _ => x) (F := [.le (.rem (.a 0) 3) (-1)]) (holds_cons (show x.tmod 3 ≤ -1 by omega) holds_nil) (tab := []) tabNil rfl rfl (f := 20) (args := [.sx .i64 (.a 0), .v (.int .i64 3)]) (v := .sx .i64 (.wrap .i64 (.add (.rem (.a 0) 3) (.c 3)))) (by kernel_rfl) (by kernel_rfl) (by kernel_rfl)
    have b : -3 < x.tmod 3 := by have := Int.lt_tmod_of_pos x (show (0 : Int) < 3 by decide); omega
    have e : IntKind.i64.wrap (x.tmod 3 + 3) = x % 3 := by
      rw [wrapI, Int.tmod_eq_emod]
      rw [Int.tmod_eq_emod] at h b
      split at h <;> split <;> omega
    rw [← e]
    exact k

theorem pick20_5 (x : Int) : Ret Try.prog 20 [.int .i64 x, .int .i64 5] (.int .i64 (x % 5)) := by
  by_cases h : 0 ≤ x.tmod 5
  · have k := retV (val := fun _ => x) (F := [.ge (.rem (.a 0) 5) 0]) (holds_cons (show 0 ≤ x.tmod 5 from h) holds_nil) (tab := []) tabNil rfl rfl (f := 20) (args := [.sx .i64 (.a 0), .v (.int .i64 5)]) (v := .sx .i64 (.rem (.a 0) 5)) (by kernel_rfl) (by kernel_rfl) (by kernel_rfl)
    have e : x.tmod 5 = x % 5 := by rw [Int.tmod_eq_emod]; split <;> rw [Int.tmod_eq_emod] at h <;> split at h <;> omega
    rw [← e]
    exact k
  · have k := retV (val := fun _ => x) (F := [.le (.rem (.a 0) 5) (-1)]) (holds_cons (show x.tmod 5 ≤ -1 by omega) holds_nil) (tab := []) tabNil rfl rfl (f := 20) (args := [.sx .i64 (.a 0), .v (.int .i64 5)]) (v := .sx .i64 (.wrap .i64 (.add (.rem (.a 0) 5) (.c 5)))) (by kernel_rfl) (by kernel_rfl) (by kernel_rfl)
    have b : -5 < x.tmod 5 := by have := Int.lt_tmod_of_pos x (show (0 : Int) < 5 by decide); omega
    have e : IntKind.i64.wrap (x.tmod 5 + 5) = x % 5 := by
      rw [wrapI, Int.tmod_eq_emod]
      rw [Int.tmod_eq_emod] at h b
      split at h <;> split <;> omega
    rw [← e]
    exact k

theorem pick20_6 (x : Int) : Ret Try.prog 20 [.int .i64 x, .int .i64 6] (.int .i64 (x % 6)) := by
  by_cases h : 0 ≤ x.tmod 6
  · have k := retV (val := fun _ => x) (F := [.ge (.rem (.a 0) 6) 0]) (holds_cons (show 0 ≤ x.tmod 6 from h) holds_nil) (tab := []) tabNil rfl rfl (f := 20) (args := [.sx .i64 (.a 0), .v (.int .i64 6)]) (v := .sx .i64 (.rem (.a 0) 6)) (by kernel_rfl) (by kernel_rfl) (by kernel_rfl)
    have e : x.tmod 6 = x % 6 := by rw [Int.tmod_eq_emod]; split <;> rw [Int.tmod_eq_emod] at h <;> split at h <;> omega
    rw [← e]
    exact k
  · have k := retV (val := fun _ => x) (F := [.le (.rem (.a 0) 6) (-1)]) (holds_cons (show x.tmod 6 ≤ -1 by omega) holds_nil) (tab := []) tabNil rfl rfl (f := 20) (args := [.sx .i64 (.a 0), .v (.int .i64 6)]) (v := .sx .i64 (.wrap .i64 (.add (.rem (.a 0) 6) (.c 6)))) (by kernel_rfl) (by kernel_rfl) (by kernel_rfl)
    have b : -6 < x.tmod 6 := by have := Int.lt_tmod_of_pos x (show (0 : Int) < 6 by decide); omega
    have e : IntKind.i64.wrap (x.tmod 6 + 6) = x % 6 := by
      rw [wrapI, Int.tmod_eq_emod]
      rw [Int.tmod_eq_emod] at h b
      split at h <;> split <;> omega
    rw [← e]
    exact k

theorem pick20_1 (x : Int) : Ret Try.prog 20 [.int .i64 x, .int .i64 1] (.int .i64 0) := by
  have h : x.tmod 1 = 0 := Int.tmod_one x
  have k := retV (val := fun _ => x) (F := [.is (.rem (.a 0) 1) 0]) (holds_cons (show x.tmod 1 = 0 from h) holds_nil) (tab := []) tabNil rfl rfl (f := 20) (args := [.sx .i64 (.a 0), .v (.int .i64 1)]) (v := .v (.int .i64 0)) (by kernel_rfl) (by kernel_rfl) (by kernel_rfl)
  exact k

theorem fits64 (x : Int) (hx : -2147483648 ≤ x ∧ x ≤ 2147483647) (b : Bool) (hb : b = true ↔ fits8 x) : Ret Try.prog 64 [.int .i64 x, .int .i64 8] (.bool b) := by
  have f := fitsAll x ⟨by omega, by omega⟩ 8 (by omega) (by omega)
  have e : (sgnF x 8 == x) = b := by
    have s : sgnF x 8 = (x + 2 ^ 7) % 2 ^ 8 - 2 ^ 7 := rfl
    cases b with
    | true =>
      have h := hb.1 rfl
      rw [beq_iff_eq, s]
      unfold fits8 at h
      simp only [Int.reducePow]; omega
    | false =>
      have h : ¬ fits8 x := fun h => by have := hb.2 h; cases this
      rw [beq_eq_false_iff_ne, s]
      unfold fits8 at h
      simp only [Int.reducePow]; omega
  rw [e] at f
  exact f

theorem base_eq (hB : c.isB = true) : c.base = [ci 5, num c.hb 11 c.lb] := by unfold Cfg.base; rw [hB]; rfl

theorem index_eq (hI : c.isI = true) : c.index = [ci 5, num c.hi 14 c.li] := by unfold Cfg.index; rw [hI]; rfl

/-- Calls of numbers. -/
theorem tPOK (o : OfB0 c v sla) : TabOK Try.prog (valB v) sla (tP c) := by
  have f0 := o.f0
  have l0 := o.lo0
  have i0 := o.ix0
  have s3 := o.ss3
  have k10 : @conc (nameS (valB v) sla) E0 (a 10) = .int .i64 v.f := rfl
  have hcis : ∀ n : Nat, @conc (nameS (valB v) sla) E0 (ci n) = .int .i64 (n : Int) := fun _ => rfl
  refine tCons ?_ (tApp (tNot fun h0 => tCons ?_ tNil) (tApp (tCond fun h0 => tApp (tCons ?_ tNil) (tCons ?_ (tCons ?_ tNil))) (tApp (tCond fun h2 => tCons ?_ tNil) (tApp (tCond fun hB => ?_) (tApp (tCond fun hI => ?_) (tApp (tCons ?_ (tCons ?_ (tCons ?_ tNil))) (tApp (tCond fun h3 => ?_) (tApp (tCond fun h4 => tCons ?_ tNil) (tApp (tCond fun h5 => tCons ?_ tNil) (tApp (tCond fun h6 => tCons ?_ tNil) (tCons ?_ (tCons ?_ (tCons ?_ (tCons ?_ (tCons ?_ tNil)))))))))))))))
  · exact o.chk
  · exact o.can (beqF h0)
  · exact jB (hcis 3) k10 (show _ = Value.int .i64 v.lo from rfl) (by omega) f0 l0 rfl
  · exact o.low (beqT h0)
  · exact o.high (beqT h0)
  · exact jB (hcis 0) k10 (hcis 5) (by omega) f0 (by omega) rfl
  · rw [base_eq hB]
    exact rgB o.hb rfl l0 (o.lb hB)
  · rw [index_eq hI]
    exact rgB o.hi rfl i0 (o.li hI)
  · exact jB (hcis 0) k10 (hcis 4) (by omega) f0 (by omega) rfl
  · exact jB (hcis 1) k10 (hcis 4) (by omega) f0 (by omega) rfl
  · exact jB (hcis 2) k10 (hcis 4) (by omega) f0 (by omega) rfl
  · have hB : c.isB = true := by unfold Cfg.isB; rw [h3]; rfl
    have pl : @conc (nameS (valB v) sla) E0 (pc 11 c.lb) = .int .i64 v.lo := pcB rfl (o.lb hB)
    refine tApp (tNot fun _ => tCons ?_ (tCons ?_ (tCons ?_ tNil))) (tCons ?_ (tCons ?_ tNil))
    · exact jB (hcis 0) k10 pl (by omega) f0 l0 rfl
    · exact jB (hcis 1) k10 pl (by omega) f0 l0 rfl
    · exact jB (hcis 2) k10 pl (by omega) f0 l0 rfl
    · exact jB (hcis 0) (hcis 4) pl (by omega) (by omega) l0 rfl
    · exact jB (hcis 0) pl (hcis 5) (by omega) l0 (by omega) rfl
  · have hI : c.isI = true := by unfold Cfg.isI; rw [h4]; rfl
    exact jB (hcis c.ss) (pcB rfl (o.li hI)) (hcis 5) (by omega) i0 (by omega) (by show 64 * v.ss + 8 * v.ix + 5 = _; rw [o.ss]; rfl)
  · have hI : c.isI = true := by unfold Cfg.isI; rw [h5, Bool.or_true]
    have hB : c.isB = true := by unfold Cfg.isB; rw [h5, Bool.or_true]
    exact jB (hcis c.ss) (pcB rfl (o.li hI)) (pcB rfl (o.lb hB)) (by omega) i0 l0 (by show 64 * v.ss + 8 * v.ix + v.lo = _; rw [o.ss]; rfl)
  · obtain ⟨hB, hd⟩ := Bool.and_eq_true_iff.1 h6
    have hd : c.dk ≠ 0 := by
      cases hb : Nat.beq c.dk 0 with
      | true => rw [hb] at hd; cases hd
      | false => exact beqF hb
    refine fits64 v.d o.d0 (Nat.beq c.dk 1) ⟨fun h => o.d8 (beqT h), fun h => ?_⟩
    cases hb : Nat.beq c.dk 1 with
    | true => rfl
    | false => exact absurd h (o.db hB hd (beqF hb))
  · exact pick20_1 v.cut
  · exact pick20_2 v.cut
  · exact pick20_3 v.cut
  · exact pick20_5 v.cut
  · exact pick20_6 v.cut

theorem mNil {val : Nat → Int} : MTabOK Try.prog val sla [] := fun _ hx => by cases hx

theorem mCons {val : Nat → Int} {e : ME} {l : List ME} (h : ∀ w vs, @PtsOf (nameS val sla) w e.ps vs → @SummV (nameS val sla) Try.prog e.f vs e.v0 e.bs w) (ht : MTabOK Try.prog val sla l) : MTabOK Try.prog val sla (e :: l) := by
  intro y hy
  rcases List.mem_cons.1 hy with rfl | hy
  · exact h
  · exact ht y hy

theorem putArgs {val : Nat → Int} {x : AV} {n : Nat} {d : Int} (hd : @conc (nameS val sla) E0 x = .int .i64 d) {w : World} {vs : List Value} (h : @PtsOf (nameS val sla) w [.one (.av x), .one (.av (ci n))] vs) : vs = [.int .i64 d, .int .i64 (n : Int)] := by
  obtain ⟨v, us, rfl, hv, v', us', rfl, hv', hu⟩ := h
  have hv : v = @conc (nameS val sla) E0 x := hv
  have hv' : v' = .int .i64 (n : Int) := hv'
  have hu : us' = [] := hu
  rw [hv, hv', hu, hd]

theorem putT1 {val : Nat → Int} {x y : AV} {d : Int} (hd : @conc (nameS val sla) E0 x = .int .i64 d) (hx : ∀ E, @conc (nameS val sla) E x = @conc (nameS val sla) E0 x) (h : -128 ≤ d ∧ d ≤ 127) (hb : ∀ E, @conc (nameS val sla) E y = .int .u8 (bO d 0)) : ∀ w vs, @PtsOf (nameS val sla) w (putM x 1 [y]).ps vs → @SummV (nameS val sla) Try.prog (putM x 1 [y]).f vs (putM x 1 [y]).v0 (putM x 1 [y]).bs w := by
  intro w vs hp
  have e := putArgs hd hp
  subst e
  refine summV_congr (I := IC) (J := nameS val sla) (v0 := .sl 0 0 1 1) (bs := [⟨5, false, 1, [.v (.int .u8 (bO d 0))]⟩]) (fun E => rfl) rfl (fun k fb fb' hk hk' => ?_) (put1 d h.1 h.2 w)
  cases k with
  | zero =>
    simp only [putM, List.getElem?_cons_zero, Option.some.injEq] at hk hk'
    subst hk hk'
    refine ⟨rfl, rfl, rfl, fun E => ?_⟩
    simp only [concs, hb E]
    rfl
  | succ k => simp at hk

theorem putT4 {val : Nat → Int} {x y0 y1 y2 y3 : AV} {d : Int} (hd : @conc (nameS val sla) E0 x = .int .i64 d) (hx : ∀ E, @conc (nameS val sla) E x = @conc (nameS val sla) E0 x) (h : -2147483648 ≤ d ∧ d ≤ 2147483647) (h0 : ∀ E, @conc (nameS val sla) E y0 = .int .u8 (bO d 0)) (h1 : ∀ E, @conc (nameS val sla) E y1 = .int .u8 (bO d 1)) (h2 : ∀ E, @conc (nameS val sla) E y2 = .int .u8 (bO d 2)) (h3 : ∀ E, @conc (nameS val sla) E y3 = .int .u8 (bO d 3)) :
    ∀ w vs, @PtsOf (nameS val sla) w (putM x 4 [y0, y1, y2, y3]).ps vs → @SummV (nameS val sla) Try.prog (putM x 4 [y0, y1, y2, y3]).f vs (putM x 4 [y0, y1, y2, y3]).v0 (putM x 4 [y0, y1, y2, y3]).bs w := by
  intro w vs hp
  have e := putArgs hd hp
  subst e
  refine summV_congr (I := IC) (J := nameS val sla) (v0 := .sl 0 0 4 4) (bs := [⟨5, false, 1, [.v (.int .u8 (bO d 0)), .v (.int .u8 (bO d 1)), .v (.int .u8 (bO d 2)), .v (.int .u8 (bO d 3))]⟩]) (fun E => rfl) rfl (fun k fb fb' hk hk' => ?_) (put4 d h.1 h.2 w)
  cases k with
  | zero =>
    simp only [putM, List.getElem?_cons_zero, Option.some.injEq] at hk hk'
    subst hk hk'
    refine ⟨rfl, rfl, rfl, fun E => ?_⟩
    simp only [concs, h0 E, h1 E, h2 E, h3 E]
    rfl
  | succ k => simp at hk

/-- Calls of modrm.put. -/
theorem tMOK (o : OfB0 c v sla) : MTabOK Try.prog (valB v) sla (tM c) := by
  have d0 := o.d0
  have hd : @conc (nameS (valB v) sla) E0 c.disp = .int .i64 v.d := by
    unfold Cfg.disp
    split
    · rename_i h; rw [o.dz h]; rfl
    · rfl
  have hx : ∀ E, @conc (nameS (valB v) sla) E c.disp = @conc (nameS (valB v) sla) E0 c.disp := fun E => by
    unfold Cfg.disp
    split <;> rfl
  unfold tM
  have h4 : MTabOK Try.prog (valB v) sla [putM c.disp 4 c.d4] := by
    unfold Cfg.d4
    split
    · rename_i h
      have hz := o.dz h
      exact mCons (putT4 hd hx d0 (fun _ => by rw [hz]; rfl) (fun _ => by rw [hz]; rfl) (fun _ => by rw [hz]; rfl) (fun _ => by rw [hz]; rfl)) mNil
    · exact mCons (putT4 hd hx d0 (fun _ => rfl) (fun _ => rfl) (fun _ => rfl) (fun _ => rfl)) mNil
  cases hb : Nat.ble c.dk 1 with
  | false => exact h4
  | true =>
    have hle := Nat.le_of_ble_eq_true hb
    have h8 : -128 ≤ v.d ∧ v.d ≤ 127 := by
      by_cases h : c.dk = 0
      · rw [o.dz h]; omega
      · exact o.d8 (by omega)
    have h1 : ∀ w vs, @PtsOf (nameS (valB v) sla) w (putM c.disp 1 c.d1).ps vs → @SummV (nameS (valB v) sla) Try.prog (putM c.disp 1 c.d1).f vs (putM c.disp 1 c.d1).v0 (putM c.disp 1 c.d1).bs w := by
      unfold Cfg.d1
      split
      · rename_i h
        have hz := o.dz h
        exact putT1 hd hx h8 (fun _ => by rw [hz]; rfl)
      · exact putT1 hd hx h8 (fun _ => rfl)
    exact mCons h1 h4

theorem hApp {val : Nat → Int} {l l' : List Fact} (h : Holds val l) (h' : Holds val l') : Holds val (l ++ l') := by
  intro x hx
  rcases List.mem_append.1 hx with hx | hx
  · exact h x hx
  · exact h' x hx

theorem hCond {val : Nat → Int} {b : Bool} {l : List Fact} (h : b = true → Holds val l) : Holds val (cond b l []) := by
  cases b
  · exact holds_nil
  · exact h rfl

theorem hNot {val : Nat → Int} {b : Bool} {l : List Fact} (h : b = false → Holds val l) : Holds val (cond b [] l) := by
  cases b
  · exact h rfl
  · exact holds_nil

theorem hNe {val : Nat → Int} {k : Nat} : ∀ {l : List Nat}, (∀ j ∈ l, val k ≠ val j) → Holds val (neF k l)
  | [], _ => holds_nil
  | j :: l, h => by
    have ih := hNe (l := l) fun i hi => h i (List.mem_cons_of_mem _ hi)
    unfold neF
    cases Nat.beq k j
    · exact holds_cons (show decide (val k = val j) = false from decide_eq_false (h j (List.mem_cons_self ..))) ih
    · exact ih

theorem hBytes {val : Nat → Int} : ∀ {l : List Nat}, (∀ j ∈ l, 0 ≤ val j ∧ val j ≤ 255) → Holds val (bytesF l)
  | [], _ => holds_nil
  | j :: l, h => holds_cons (h j (List.mem_cons_self ..)).1 (holds_cons (h j (List.mem_cons_self ..)).2 (hBytes fun i hi => h i (List.mem_cons_of_mem _ hi)))

/-- What is known. -/
theorem preOK (o : OfB c v sla) : Holds (valB v) (preB c) := by
  have f0 := o.f0
  have l0 := o.lo0
  have i0 := o.ix0
  have s3 := o.ss3
  have se := o.ss
  have d0 := o.d0
  unfold preB
  refine hApp (holds_cons f0.1 (holds_cons f0.2 holds_nil)) (hApp (hCond fun h8 => ?_) (hApp (hCond fun h8 => ?_) (hApp (hNot fun hd => ?_) (hApp ?_ (hApp (hCond fun hB => ?_) (hApp ?_ ?_))))))
  · refine hApp (holds_cons l0.1 (holds_cons l0.2 holds_nil)) (hApp (hCond fun h3 => holds_cons (o.ne4 (beqT h8) (beqT h3)) holds_nil) (hNot fun h0 => holds_cons (o.ne5 (beqT h8) (beqF h0)) holds_nil))
  · exact holds_cons i0.1 (holds_cons i0.2 (holds_cons (o.ni4 (beqT h8)) holds_nil))
  · exact holds_cons d0.1 (holds_cons d0.2 (holds_cons (o.dn (beqF hd)) holds_nil))
  · exact holds_cons (show 0 ≤ v.cut % 2 by omega) (holds_cons (show v.cut % 2 ≤ 1 by omega) (holds_cons (show 0 ≤ v.cut % 3 by omega) (holds_cons (show v.cut % 3 ≤ 2 by omega) (holds_cons (show 0 ≤ v.cut % 5 by omega) (holds_cons (show v.cut % 5 ≤ 4 by omega) (holds_cons (show 0 ≤ v.cut % 6 by omega) (holds_cons (show v.cut % 6 ≤ 5 by omega) holds_nil)))))))
  · have e20 : valB v 20 = 64 * 0 + 8 * v.f + v.lo := rfl
    have e21 : valB v 21 = 64 * 1 + 8 * v.f + v.lo := rfl
    have e22 : valB v 22 = 64 * 2 + 8 * v.f + v.lo := rfl
    have e24 : valB v 24 = 64 * 0 + 8 * v.f + 4 := rfl
    have e25 : valB v 25 = 64 * 1 + 8 * v.f + 4 := rfl
    have e26 : valB v 26 = 64 * 2 + 8 * v.f + 4 := rfl
    have e30 : valB v 30 = 64 * v.ss + 8 * v.ix + v.lo := rfl
    have e31 : valB v 31 = 64 * 0 + 8 * 4 + v.lo := rfl
    have e32 : valB v 32 = 64 * 0 + 8 * v.lo + 5 := rfl
    have e60 : valB v 60 = v.d / 1 % 256 := rfl
    have e61 : valB v 61 = v.d / 1 % 256 := rfl
    have e62 : valB v 62 = v.d / 256 % 256 := rfl
    have e63 : valB v 63 = v.d / 65536 % 256 := rfl
    have e64 : valB v 64 = v.d / 16777216 % 256 := rfl
    have N : ∀ {k j : Nat} {x y : Int}, valB v k = x → valB v j = y → x ≠ y → valB v k ≠ valB v j := fun h1 h2 h => by rw [h1, h2]; exact h
    have B : ∀ {k : Nat} {x : Int}, valB v k = x → 0 ≤ x ∧ x ≤ 255 → 0 ≤ valB v k ∧ valB v k ≤ 255 := fun h1 h => by rw [h1]; exact h
    have hne : ∀ k l, (∀ j ∈ l, valB v k ≠ valB v j) → Holds (valB v) (neF k l) := fun k l h => hNe h
    refine hApp (hCond fun h3 => hApp (hNot fun h4 => ?_) (hApp (hne _ _ ?_) (hne _ _ ?_))) (hApp (hne _ _ ?_) (hApp (hne _ _ ?_) (hApp (hne _ _ ?_) (hBytes ?_))))
    · have h4' := o.nb4 (beqT h3) (beqF h4)
      exact hApp (hne _ _ (List.forall_mem_cons.2 ⟨N e20 e21 (by omega), (List.forall_mem_cons.2 ⟨N e20 e22 (by omega), (List.forall_mem_cons.2 ⟨N e20 e24 (by omega), (List.forall_mem_cons.2 ⟨N e20 e25 (by omega), (List.forall_mem_cons.2 ⟨N e20 e26 (by omega), (fun _ hj => absurd hj List.not_mem_nil)⟩)⟩)⟩)⟩)⟩)) (hApp (hne _ _ (List.forall_mem_cons.2 ⟨N e21 e20 (by omega), (List.forall_mem_cons.2 ⟨N e21 e22 (by omega), (List.forall_mem_cons.2 ⟨N e21 e24 (by omega), (List.forall_mem_cons.2 ⟨N e21 e25 (by omega), (List.forall_mem_cons.2 ⟨N e21 e26 (by omega), (fun _ hj => absurd hj List.not_mem_nil)⟩)⟩)⟩)⟩)⟩)) (hApp (hne _ _ (List.forall_mem_cons.2 ⟨N e22 e20 (by omega), (List.forall_mem_cons.2 ⟨N e22 e21 (by omega), (List.forall_mem_cons.2 ⟨N e22 e24 (by omega), (List.forall_mem_cons.2 ⟨N e22 e25 (by omega), (List.forall_mem_cons.2 ⟨N e22 e26 (by omega), (fun _ hj => absurd hj List.not_mem_nil)⟩)⟩)⟩)⟩)⟩)) (hApp (hne _ _ (List.forall_mem_cons.2 ⟨N e24 e20 (by omega), (List.forall_mem_cons.2 ⟨N e24 e21 (by omega), (List.forall_mem_cons.2 ⟨N e24 e22 (by omega), (fun _ hj => absurd hj List.not_mem_nil)⟩)⟩)⟩)) (hApp (hne _ _ (List.forall_mem_cons.2 ⟨N e25 e20 (by omega), (List.forall_mem_cons.2 ⟨N e25 e21 (by omega), (List.forall_mem_cons.2 ⟨N e25 e22 (by omega), (fun _ hj => absurd hj List.not_mem_nil)⟩)⟩)⟩)) (hne _ _ (List.forall_mem_cons.2 ⟨N e26 e20 (by omega), (List.forall_mem_cons.2 ⟨N e26 e21 (by omega), (List.forall_mem_cons.2 ⟨N e26 e22 (by omega), (fun _ hj => absurd hj List.not_mem_nil)⟩)⟩)⟩))))))
    · exact (List.forall_mem_cons.2 ⟨N e31 e32 (by omega), (fun _ hj => absurd hj List.not_mem_nil)⟩)
    · exact (List.forall_mem_cons.2 ⟨N e32 e31 (by omega), (fun _ hj => absurd hj List.not_mem_nil)⟩)
    · exact (List.forall_mem_cons.2 ⟨N e24 e25 (by omega), (List.forall_mem_cons.2 ⟨N e24 e26 (by omega), (fun _ hj => absurd hj List.not_mem_nil)⟩)⟩)
    · exact (List.forall_mem_cons.2 ⟨N e25 e24 (by omega), (List.forall_mem_cons.2 ⟨N e25 e26 (by omega), (fun _ hj => absurd hj List.not_mem_nil)⟩)⟩)
    · exact (List.forall_mem_cons.2 ⟨N e26 e24 (by omega), (List.forall_mem_cons.2 ⟨N e26 e25 (by omega), (fun _ hj => absurd hj List.not_mem_nil)⟩)⟩)
    · exact (List.forall_mem_cons.2 ⟨B e20 (by omega), (List.forall_mem_cons.2 ⟨B e21 (by omega), (List.forall_mem_cons.2 ⟨B e22 (by omega), (List.forall_mem_cons.2 ⟨B e24 (by omega), (List.forall_mem_cons.2 ⟨B e25 (by omega), (List.forall_mem_cons.2 ⟨B e26 (by omega), (List.forall_mem_cons.2 ⟨B e30 (by omega), (List.forall_mem_cons.2 ⟨B e31 (by omega), (List.forall_mem_cons.2 ⟨B e32 (by omega), (List.forall_mem_cons.2 ⟨B e60 (by omega), (List.forall_mem_cons.2 ⟨B e61 (by omega), (List.forall_mem_cons.2 ⟨B e62 (by omega), (List.forall_mem_cons.2 ⟨B e63 (by omega), (List.forall_mem_cons.2 ⟨B e64 (by omega), (fun _ hj => absurd hj List.not_mem_nil)⟩)⟩)⟩)⟩)⟩)⟩)⟩)⟩)⟩)⟩)⟩)⟩)⟩)⟩)
  · cases ha : c.ah with
    | true => have := o.ah ha; exact holds_cons (show (1 : Int) ≤ (v.zs.length : Int) by omega) (holds_cons (show (v.zs.length : Int) ≤ 30 by omega) holds_nil)
    | false => have := o.an ha; exact holds_cons (show (v.zs.length : Int) = 0 by omega) holds_nil
  · cases hb : c.be with
    | true => have := o.be hb; exact holds_cons (show (1 : Int) ≤ (v.ys.length : Int) by omega) (holds_cons (show (v.ys.length : Int) ≤ 30 by omega) holds_nil)
    | false => have := o.bn hb; exact holds_cons (show (v.ys.length : Int) = 0 by omega) holds_nil

end
end Go.Proofs.Ytbenfglhomiocaa.Bak
