/-
  The law 'ModrmBack', of any operand, bytes ahead and behind.
-/
import Derived.Test.YtbenfglhomiocaaBakP
import Derived.Test.YtbenfglhomiocaaBakR

namespace Go.Proofs.Ytbenfglhomiocaa.modrmBack
open Go.Sim Go.Proofs.Ytbenfglhomiocaa.Fld Go.Proofs.Ytbenfglhomiocaa.Tab Go.Proofs.Ytbenfglhomiocaa.Bak
set_option maxRecDepth 100000
set_option linter.unusedVariables false

abbrev Good (args : Array Value) (w : World) : Prop := Calls Try.prog 6 args w fun e w' => e = .returned (.bool true) ∧ RowKit.Below w.heap.size w w'

/-- A slice of bytes. -/
structure Sl (w : World) (oa : Option Addr) (cp : Nat) (zs : List Int) : Prop where
  b : ∀ z ∈ zs, 0 ≤ z ∧ z ≤ 255
  at' : zs ≠ [] → ∃ q off, oa = some ⟨q, off, none⟩ ∧ zs.length ≤ cp ∧ q < w.heap.size ∧ ∀ (i : Nat) (n : Int), zs[i]? = some n → w.cell? ⟨q, off + i, none⟩ = some (.int .u8 n)

theorem rangeB {n : Int} (h : (Lit.int .u8 n).wf = true) : 0 ≤ n ∧ n ≤ 255 := by
  have h' : (decide (IntKind.u8.min ≤ n) && decide (n ≤ IntKind.u8.max)) = true := h
  simp only [Bool.and_eq_true, decide_eq_true_eq] at h'
  exact h'

theorem slOf {w : World} {s : Value} (h : SliceIn w .u8 s) : ∃ oa cp zs, s = .slice oa zs.length cp ∧ Sl w oa cp zs := by
  rcases h with ⟨oa, cap, rfl⟩ | ⟨q, off, cap, zs, h0, rfl, hcap, hlt, hc, hwf⟩
  · exact ⟨oa, cap, [], rfl, ⟨(fun z hz => absurd hz List.not_mem_nil), fun h => absurd rfl h⟩⟩
  · exact ⟨some ⟨q, off, none⟩, cap, zs, rfl, ⟨fun z hz => rangeB (hwf z hz), fun _ => ⟨q, off, rfl, hcap, hlt, hc⟩⟩⟩

/-- Slices by their address, their capacity. -/
abbrev slaB (oa1 : Option Addr) (cp1 : Nat) (oa2 : Option Addr) (cp2 : Nat) : Nat → Option Addr × Nat := fun k => match k with
  | 1 => (oa1, cp1)
  | _ => (oa2, cp2)

theorem endX {val : Nat → Int} {x : AV} {oa1 oa2 : Option Addr} {cp1 cp2 n1 n2 : Nat} (hl : LawO Try.prog 6 (argsX x) [] (slaB oa1 cp1 oa2 cp2) val) {f k cut : Int} {cs : List Int} (h10 : val 10 = f) (h8 : val 8 = cut) (h1 : val 1 = (n1 : Int)) (h3 : val 3 = (n2 : Int))
    (hx : @conc (nameS val (slaB oa1 cp1 oa2 cp2)) E0 x = argV k cs) (w : World) : Good #[.int .i64 f, argV k cs, .slice oa1 n1 cp1, .slice oa2 n2 cp2, .int .i64 cut] w := by
  have r := hl E0 w (noOut _ _)
  have e : @concs (nameS val (slaB oa1 cp1 oa2 cp2)) E0 (argsX x) = [.int .i64 (val 10), @conc (nameS val (slaB oa1 cp1 oa2 cp2)) E0 x, .slice oa1 (val 1).toNat cp1, .slice oa2 (val 3).toNat cp2, .int .i64 (val 8)] := by
    simp only [concs, conc]; rfl
  rw [e, hx, h10, h8, h1, h3] at r
  exact r

theorem outOne {I : Syms} {E : Env} {w : World} {ki : IntKind} {k0 : Nat} {n : SX} (hb : E.ρ 0 < w.heap.size) (hr : @RowOK I E w 0 ki k0 n) : @OutOK I E w [(0, [.row ki k0 n])] := by
  intro k o hk
  cases k with
  | zero =>
    simp only [List.getElem?_cons_zero, Option.some.injEq] at hk
    subst hk
    refine ⟨hb, fun hn => absurd rfl hn, fun ki' k0' n' he => ?_⟩
    simp only [Prod.mk.injEq, true_and, List.cons.injEq, AV.row.injEq, and_true] at he
    obtain ⟨rfl, rfl, rfl⟩ := he
    exact hr
  | succ k => simp at hk

theorem outTwo {I : Syms} {E : Env} {w : World} {ki : IntKind} {k0 : Nat} {n : SX} {ki' : IntKind} {k0' : Nat} {n' : SX} (hb : E.ρ 0 < w.heap.size) (hr : @RowOK I E w 0 ki k0 n) (hb' : E.ρ 1 < w.heap.size) (hr' : @RowOK I E w 1 ki' k0' n') : @OutOK I E w [(0, [.row ki k0 n]), (0, [.row ki' k0' n'])] := by
  intro k o hk
  cases k with
  | zero =>
    simp only [List.getElem?_cons_zero, Option.some.injEq] at hk
    subst hk
    refine ⟨hb, fun hn => absurd rfl hn, fun ki' k0' n' he => ?_⟩
    simp only [Prod.mk.injEq, true_and, List.cons.injEq, AV.row.injEq, and_true] at he
    obtain ⟨rfl, rfl, rfl⟩ := he
    exact hr
  | succ k =>
    cases k with
    | zero =>
      simp only [Nat.zero_add, List.getElem?_cons_succ, List.getElem?_cons_zero, Option.some.injEq] at hk
      subst hk
      refine ⟨hb', fun hn => absurd rfl hn, fun ki' k0' n' he => ?_⟩
      simp only [Prod.mk.injEq, true_and, List.cons.injEq, AV.row.injEq, and_true] at he
      obtain ⟨rfl, rfl, rfl⟩ := he
      exact hr'
    | succ k => simp at hk

theorem rowIs {val : Nat → Int} {sla : Nat → Option Addr × Nat} {E : Env} {w : World} {k k0 j : Nat} {zs : List Int} (hl : val j = zs.length) (hv : ∀ i : Nat, i < zs.length → val (k0 + i) = zs.getD i 0)
    (hc : ∀ (i : Nat) (n : Int), zs[i]? = some n → w.cell? ⟨E.ρ k, E.κ k + i, none⟩ = some (.int .u8 n)) : @RowOK (nameS val sla) E w k .u8 k0 (.a j) := by
  intro i hi
  have hi : (i : Int) < val j := hi
  have hi' : i < zs.length := by omega
  show w.cell? ⟨E.ρ k, E.κ k + i, none⟩ = some (.int .u8 (val (k0 + i)))
  rw [hv i hi']
  have := hc i zs[i] (List.getElem?_eq_getElem hi')
  rw [this, List.getD_eq_getElem?_getD, List.getElem?_eq_getElem hi']
  rfl

theorem zsB {v : V} (h : v.zs.length ≤ 30) (i : Nat) (hi : i < v.zs.length) : valB v (100 + i) = v.zs.getD i 0 := by
  have h1 : ¬ 100 + i < 100 := by omega
  have h2 : 100 + i < 200 := by omega
  simp only [valB, if_neg h1, if_pos h2, Nat.add_sub_cancel_left]

theorem ysB {v : V} (i : Nat) (hi : i < v.ys.length) : valB v (200 + i) = v.ys.getD i 0 := by
  have h1 : ¬ 200 + i < 100 := by omega
  have h2 : ¬ 200 + i < 200 := by omega
  simp only [valB, if_neg h1, if_neg h2, Nat.add_sub_cancel_left]

theorem rowArg {val : Nat → Int} {sla : Nat → Option Addr × Nat} {E : Env} {b j m n cp : Nat} (h1 : val j = (n : Int)) (h2 : val m = (cp : Int)) : @conc (nameS val sla) E (.ry b (.c 0) (.a j) (.a m)) = .slice (some ⟨E.ρ b, E.κ b, none⟩) n cp := by
  show @conc (nameS val sla) E (.ry b (.c (.ofNat 0)) (.a j) (.a m)) = _
  rw [@ry0_conc _ (nameS val sla)]
  show Value.slice _ (val j).toNat (val m).toNat = _
  rw [h1, h2]
  rfl

theorem endB {c : Cfg} {v : V} {w : World} {oa1 oa2 : Option Addr} {cp1 cp2 : Nat} (hl : LawO Try.prog 6 (argsB c) (outsB c) (slaB oa1 cp1 oa2 cp2) (valB v)) {k : Int} (hx : @conc (nameS (valB v) (slaB oa1 cp1 oa2 cp2)) E0 c.arg = argV k v.cells)
    (s1 : Sl w oa1 cp1 v.zs) (s2 : Sl w oa2 cp2 v.ys) (z30 : v.zs.length ≤ 30) (ha : c.ah = true → v.zs ≠ []) (hb : c.be = true → v.ys ≠ []) (e1 : v.c1 = cp1) (e2 : v.c2 = cp2) : Good #[.int .i64 v.f, argV k v.cells, .slice oa1 v.zs.length cp1, .slice oa2 v.ys.length cp2, .int .i64 v.cut] w := by
  have hx' : ∀ E, @conc (nameS (valB v) (slaB oa1 cp1 oa2 cp2)) E c.arg = argV k v.cells := fun E => by rw [@plain_conc (nameS (valB v) (slaB oa1 cp1 oa2 cp2)) E E0 c.arg (plainArg c)]; exact hx
  have k1 : valB v 1 = (v.zs.length : Int) := rfl
  have k3 : valB v 3 = (v.ys.length : Int) := rfl
  have k2 : valB v 2 = (cp1 : Int) := e1
  have k4 : valB v 4 = (cp2 : Int) := e2
  have o1 : ∀ E, @conc (nameS (valB v) (slaB oa1 cp1 oa2 cp2)) E (.osl 1) = .slice oa1 v.zs.length cp1 := fun E => by simp only [conc]; rfl
  have o3 : ∀ E, @conc (nameS (valB v) (slaB oa1 cp1 oa2 cp2)) E (.osl 3) = .slice oa2 v.ys.length cp2 := fun E => by simp only [conc]; rfl
  have i10 : ∀ E, @conc (nameS (valB v) (slaB oa1 cp1 oa2 cp2)) E (a 10) = .int .i64 v.f := fun E => by simp only [conc]; rfl
  have i8 : ∀ E, @conc (nameS (valB v) (slaB oa1 cp1 oa2 cp2)) E (a 8) = .int .i64 v.cut := fun E => by simp only [conc]; rfl
  cases hah : c.ah with
  | false =>
    cases hbe : c.be with
    | false =>
      have eo : outsB c = [] := by unfold outsB; rw [hah, hbe]; rfl
      have ea : argsB c = [a 10, c.arg, .osl 1, .osl 3, a 8] := by unfold argsB; rw [hah, hbe]; rfl
      rw [eo, ea] at hl
      have r := hl E0 w (noOut _ _)
      simp only [concs, hx', o1, o3, i10, i8] at r
      exact r
    | true =>
      obtain ⟨q, off, rfl, hcap, hlt, hc⟩ := s2.at' (hb hbe)
      have eo : outsB c = [(0, [.row .u8 200 (.a 3)])] := by unfold outsB; rw [hah, hbe]; rfl
      have ea : argsB c = [a 10, c.arg, .osl 1, .ry 0 (.c 0) (.a 3) (.a 4), a 8] := by unfold argsB; rw [hah, hbe]; rfl
      rw [eo, ea] at hl
      have r := hl ⟨fun _ => q, fun _ => off⟩ w (outOne hlt (rowIs k3 (fun i hi => ysB i hi) hc))
      simp only [concs, hx', o1, i10, i8, rowArg k3 k4] at r
      exact r
  | true =>
    obtain ⟨q, off, rfl, hcap, hlt, hc⟩ := s1.at' (ha hah)
    cases hbe : c.be with
    | false =>
      have eo : outsB c = [(0, [.row .u8 100 (.a 1)])] := by unfold outsB; rw [hah, hbe]; rfl
      have ea : argsB c = [a 10, c.arg, .ry 0 (.c 0) (.a 1) (.a 2), .osl 3, a 8] := by unfold argsB; rw [hah, hbe]; rfl
      rw [eo, ea] at hl
      have r := hl ⟨fun _ => q, fun _ => off⟩ w (outOne hlt (rowIs k1 (fun i hi => zsB z30 i hi) hc))
      simp only [concs, hx', o3, i10, i8, rowArg k1 k2] at r
      exact r
    | true =>
      obtain ⟨q', off', rfl, hcap', hlt', hc'⟩ := s2.at' (hb hbe)
      have eo : outsB c = [(0, [.row .u8 100 (.a 1)]), (0, [.row .u8 200 (.a 3)])] := by unfold outsB; rw [hah, hbe]; rfl
      have ea : argsB c = [a 10, c.arg, .ry 0 (.c 0) (.a 1) (.a 2), .ry 1 (.c 0) (.a 3) (.a 4), a 8] := by unfold argsB; rw [hah, hbe]; rfl
      rw [eo, ea] at hl
      have r := hl ⟨fun i => match i with | 0 => q | _ => q', fun i => match i with | 0 => off | _ => off'⟩ w (outTwo hlt (rowIs k1 (fun i hi => zsB z30 i hi) hc) hlt' (rowIs k3 (fun i hi => ysB i hi) hc'))
      simp only [concs, hx', i10, i8, rowArg k1 k2, rowArg k3 k4] at r
      exact r

/-- What Check gives of another kind. -/
abbrev valK (k : Int) (cs : List Int) : Nat → Int := fun n => match n with
  | 40 => k
  | _ => cs.getD (n - 41) 0

theorem anyK {k : Int} (cs : List Int) (h1 : k ≠ 1) (h2 : k ≠ 2) : ∃ e : Int, Ret Try.prog 30 [argV k cs] (.int .i64 e) := by
  by_cases h3 : k = 3
  · exact ⟨0, retC (val := valK k cs) (F := [.is (.a 40) 3]) (holds_cons h3 holds_nil) (sla := sla0) (f := 30) (args := [argAny]) (v := ci 0) rfl rfl (by kernel_rfl)⟩
  · by_cases h4 : k = 4
    · by_cases l : cs.getD 9 0 < -2147483648
      · exact ⟨5, retC (val := valK k cs) (F := [.le (.a 50) (-2147483649), .is (.a 40) 4]) (holds_cons (show cs.getD 9 0 ≤ -2147483649 by omega) (holds_cons h4 holds_nil)) (sla := sla0) (f := 30) (args := [argAny]) (v := ci 5) rfl rfl (by kernel_rfl)⟩
      · by_cases g : 2147483647 < cs.getD 9 0
        · exact ⟨5, retC (val := valK k cs) (F := [.ge (.a 50) 2147483648, .is (.a 40) 4]) (holds_cons (show 2147483648 ≤ cs.getD 9 0 by omega) (holds_cons h4 holds_nil)) (sla := sla0) (f := 30) (args := [argAny]) (v := ci 5) rfl rfl (by kernel_rfl)⟩
        · exact ⟨0, retC (val := valK k cs) (F := [.le (.a 50) 2147483647, .ge (.a 50) (-2147483648), .is (.a 40) 4]) (holds_cons (show cs.getD 9 0 ≤ 2147483647 by omega) (holds_cons (show -2147483648 ≤ cs.getD 9 0 by omega) (holds_cons h4 holds_nil))) (sla := sla0) (f := 30) (args := [argAny]) (v := ci 0) rfl rfl (by kernel_rfl)⟩
    · exact ⟨2, retC (val := valK k cs) (F := [.ne (.a 40) 4, .ne (.a 40) 3, .ne (.a 40) 1, .ne (.a 40) 2]) (holds_cons h4 (holds_cons h3 (holds_cons h1 (holds_cons h2 holds_nil)))) (sla := sla0) (f := 30) (args := [argAny]) (v := ci 2) rfl rfl (by kernel_rfl)⟩

/-- Where there is no way: what the names stand for. -/
abbrev valX (f k e cut n1 n2 : Int) (cs : List Int) : Nat → Int := fun n => match n with
  | 1 => n1
  | 3 => n2
  | 8 => cut
  | 10 => f
  | 12 => e
  | 40 => k
  | _ => cs.getD (n - 41) 0

section
variable {w : World} {oa1 oa2 : Option Addr} {cp1 cp2 : Nat} {n1 n2 : Nat} {f k cut : Int} {cs : List Int}

theorem loF (h : f < 0) : Good #[.int .i64 f, argV k cs, .slice oa1 n1 cp1, .slice oa2 n2 cp2, .int .i64 cut] w :=
  endX (val := valX f k 0 cut n1 n2 cs) (fieldLo (holds_cons (show f ≤ -1 by omega) holds_nil)) rfl rfl rfl rfl rfl w

theorem hiF (h : 7 < f) : Good #[.int .i64 f, argV k cs, .slice oa1 n1 cp1, .slice oa2 n2 cp2, .int .i64 cut] w :=
  endX (val := valX f k 0 cut n1 n2 cs) (fieldHi (holds_cons (show 8 ≤ f by omega) holds_nil)) rfl rfl rfl rfl rfl w

theorem errF {e : Int} (h0 : 0 ≤ f) (h7 : f ≤ 7) (he : e ≠ 0) (hr : Ret Try.prog 30 [argV k cs] (.int .i64 e)) : Good #[.int .i64 f, argV k cs, .slice oa1 n1 cp1, .slice oa2 n2 cp2, .int .i64 cut] w :=
  endX (val := valX f k e cut n1 n2 cs) (errX (holds_cons h0 (holds_cons h7 (holds_cons he holds_nil))) (tCons hr tNil)) rfl rfl rfl rfl rfl w

theorem otherF {e : Int} (h0 : 0 ≤ f) (h7 : f ≤ 7) (h1 : k ≠ 1) (h2 : k ≠ 2) (hr : Ret Try.prog 30 [argV k cs] (.int .i64 e)) : Good #[.int .i64 f, argV k cs, .slice oa1 n1 cp1, .slice oa2 n2 cp2, .int .i64 cut] w := by
  by_cases he : e = 0
  · exact endX (val := valX f k e cut n1 n2 cs) (otherX (holds_cons h0 (holds_cons h7 (holds_cons he (holds_cons h1 (holds_cons h2 holds_nil))))) (tCons hr tNil)) rfl rfl rfl rfl rfl w
  · exact errF h0 h7 he hr

end

/-- What is known where a slice is too long. -/
theorem preL_ok {c : Cfg} {v : V} {sla : Nat → Option Addr × Nat} (o : OfB0 c v sla) {z : Bool} (h1 : z = true → 31 ≤ v.zs.length) (h2 : z = false → v.zs.length ≤ 30 ∧ 31 ≤ v.ys.length) : Holds (valB v) (preL c z) := by
  have f0 := o.f0
  have l0 := o.lo0
  have i0 := o.ix0
  have d0 := o.d0
  unfold preL
  refine hApp (holds_cons f0.1 (holds_cons f0.2 holds_nil)) (hApp (hCond fun h8 => ?_) (hApp (hCond fun h8 => ?_) (hApp (hNot fun hd => ?_) ?_)))
  · refine hApp (holds_cons l0.1 (holds_cons l0.2 holds_nil)) (hApp (hCond fun h3 => holds_cons (o.ne4 (beqT h8) (beqT h3)) holds_nil) (hNot fun h0 => holds_cons (o.ne5 (beqT h8) (beqF h0)) holds_nil))
  · exact holds_cons i0.1 (holds_cons i0.2 (holds_cons (o.ni4 (beqT h8)) holds_nil))
  · exact holds_cons d0.1 (holds_cons d0.2 (holds_cons (o.dn (beqF hd)) holds_nil))
  · cases z with
    | true => have := h1 rfl; exact holds_cons (show (31 : Int) ≤ (v.zs.length : Int) by omega) holds_nil
    | false => have := h2 rfl; exact holds_cons (show (0 : Int) ≤ (v.zs.length : Int) by omega) (holds_cons (show (v.zs.length : Int) ≤ 30 by omega) (holds_cons (show (31 : Int) ≤ (v.ys.length : Int) by omega) holds_nil))

abbrev ne (zs : List Int) : Bool := !zs.isEmpty

theorem ne_t {zs : List Int} (h : ne zs = true) : zs ≠ [] := by
  intro e; rw [e] at h; cases h

theorem ne_len {zs : List Int} (h : ne zs = true) : 1 ≤ zs.length := by
  cases zs with
  | nil => cases h
  | cons z l => simp

theorem ne_nil {zs : List Int} (h : ne zs = false) : zs.length = 0 := by
  cases zs with
  | nil => rfl
  | cons z l => cases h

/-- The kind is known: the law. -/
theorem kindF {v : V} {w : World} {oa1 oa2 : Option Addr} {cp1 cp2 : Nat} (c : Bool → Bool → Cfg) (hc : ∀ a b, (c a b).ah = a ∧ (c a b).be = b) (hA : ∀ a b, BA (c a b)) (hL : ∀ z, LA (c false false) z) (o : ∀ a b, OfB0 (c a b) v (slaB oa1 cp1 oa2 cp2))
    (h42 : (c false false).kd = 0 → valB v 42 = 8 * ((c false false).hb : Int) + v.lo) (nb5 : ∀ a b, (c a b).isB = true → (c a b).lb ≠ 5 → v.lo ≠ 5) (h42' : ∀ a b, (c a b).kd = (c false false).kd ∧ (c a b).hb = (c false false).hb)
    {k : Int} (hx : ∀ a b, @conc (nameS (valB v) (slaB oa1 cp1 oa2 cp2)) E0 (c a b).arg = argV k v.cells)
    (s1 : Sl w oa1 cp1 v.zs) (s2 : Sl w oa2 cp2 v.ys) (e1 : v.c1 = cp1) (e2 : v.c2 = cp2) : Good #[.int .i64 v.f, argV k v.cells, .slice oa1 v.zs.length cp1, .slice oa2 v.ys.length cp2, .int .i64 v.cut] w := by
  by_cases hz : 31 ≤ v.zs.length
  · exact endX (val := valB v) (hL true (valB v) _ (preL_ok (o false false) (fun _ => hz) (fun h => by cases h)) (tPOK (o false false)) (tMOK (o false false))) rfl rfl rfl rfl (hx false false) w
  · by_cases hy : 31 ≤ v.ys.length
    · exact endX (val := valB v) (hL false (valB v) _ (preL_ok (o false false) (fun h => by cases h) (fun _ => ⟨by omega, hy⟩)) (tPOK (o false false)) (tMOK (o false false))) rfl rfl rfl rfl (hx false false) w
    · obtain ⟨ca, cb⟩ := hc (ne v.zs) (ne v.ys)
      have ob : OfB (c (ne v.zs) (ne v.ys)) v (slaB oa1 cp1 oa2 cp2) := ⟨o _ _, (fun h => ⟨ne_len (ca.symm.trans h), by omega⟩), (fun h => ne_nil (ca.symm.trans h)), (fun h => ⟨ne_len (cb.symm.trans h), by omega⟩), (fun h => ne_nil (cb.symm.trans h))⟩
      have hl := lawB (hA _ _) selAll ob (fun h => by rw [(h42' _ _).2]; exact h42 ((h42' _ _).1.symm.trans h)) (nb5 _ _)
      exact endB hl (hx _ _) s1 s2 (by omega) (fun h => ne_t (ca.symm.trans h)) (fun h => ne_t (cb.symm.trans h)) e1 e2

/-- The law, of any field, operand, slices, cut. -/
theorem allF {w : World} {oa1 oa2 : Option Addr} {cp1 cp2 : Nat} {zs ys : List Int} (s1 : Sl w oa1 cp1 zs) (s2 : Sl w oa2 cp2 ys) (f k cut : Int) (cs : List Int) : Good #[.int .i64 f, argV k cs, .slice oa1 zs.length cp1, .slice oa2 ys.length cp2, .int .i64 cut] w := by
  by_cases f0 : f < 0
  · exact loF f0
  by_cases f7 : 7 < f
  · exact hiF f7
  have hf : 0 ≤ f ∧ f ≤ 7 := by omega
  by_cases k1 : k = 1
  · subst k1
    rcases anyR (val0 cs) sla0 with ⟨e, he, hr⟩ | ⟨hr, hi⟩
    · exact errF hf.1 hf.2 he hr
    · have hi' : (cs.getD 0 0 = 2 ∧ 4 ≤ cs.getD 1 0 ∧ cs.getD 1 0 ≤ 7) ∨ ((cs.getD 0 0 = 1 ∨ cs.getD 0 0 = 3 ∨ cs.getD 0 0 = 4 ∨ cs.getD 0 0 = 5 ∨ cs.getD 0 0 = 6 ∨ cs.getD 0 0 = 7) ∧ 0 ≤ cs.getD 1 0 ∧ cs.getD 1 0 ≤ 15) := hi
      have l := lowAny _ _ hi'
      have g := highAny _ _ hi'
      obtain ⟨hb, hhb⟩ := Int.eq_ofNat_of_zero_le (show 0 ≤ cs.getD 1 0 / 8 by omega)
      have hb1 : hb ≤ 1 := by omega
      rw [hhb] at g
      have n : Num ⟨zs, ys, cp1, cp2, f, cs.getD 1 0 % 8, 0, 1, 0, 0, cut, cs⟩ := ⟨hf, by show 0 ≤ cs.getD 1 0 % 8 ∧ cs.getD 1 0 % 8 ≤ 7; omega, by show (0 : Int) ≤ 0 ∧ (0 : Int) ≤ 7; decide, by show (-2147483648 : Int) ≤ 1 ∧ (1 : Int) ≤ 2147483647; decide⟩
      refine kindF (v := ⟨zs, ys, cp1, cp2, f, cs.getD 1 0 % 8, 0, 1, 0, 0, cut, cs⟩) (fun a b => ⟨0, hb, 8, 0, 0, 0, 2, a, b⟩) (fun _ _ => ⟨rfl, rfl⟩) (fun a b => selB0 hb1 a b) (fun z => selL0 hb1 z) (fun a b => of0 n hb1 rfl rfl hr l g) (fun _ => ?_) (fun _ _ h => absurd h (by show ¬ (Nat.beq 0 3 || Nat.beq 0 5) = true; decide)) (fun _ _ => ⟨rfl, rfl⟩) (fun _ _ => rfl) s1 s2 rfl rfl
      show cs.getD 1 0 = 8 * (hb : Int) + cs.getD 1 0 % 8
      omega
  by_cases k2 : k = 2
  · subst k2
    rcases memAny cs with ⟨e, he, hr⟩ | ⟨b1, b2, i1, i2, s, hp, hd, hr, hcan⟩
    · exact errF hf.1 hf.2 he hr
    · have nm : ∀ lo ix ss : Int, (0 ≤ lo ∧ lo ≤ 7) → (0 ≤ ix ∧ ix ≤ 7) → Num ⟨zs, ys, cp1, cp2, f, lo, ix, cs.getD 7 0, cs.getD 8 0, ss, cut, cs⟩ := fun lo ix ss h1 h2 => ⟨hf, h1, h2, hd⟩
      have z7 : (0 : Int) ≤ 0 ∧ (0 : Int) ≤ 7 := by decide
      rcases hp with ⟨rfl, rfl, rfl, rfl, rfl⟩ | ⟨rfl, rfl, rfl, rfl, rfl⟩ | ⟨rfl, hb, rfl, rfl, rfl⟩ | ⟨rfl, rfl, rfl, hi, hi4, hs⟩ | ⟨rfl, hb, rfl, hi, hi4, hs⟩
      · refine kindF (v := ⟨zs, ys, cp1, cp2, f, 0, 0, cs.getD 7 0, cs.getD 8 0, 0, cut, cs⟩) (fun a b => ⟨1, 0, 0, 0, 0, 0, dkD (cs.getD 7 0), a, b⟩) (fun _ _ => ⟨rfl, rfl⟩) (fun a b => selB1 _ a b) (fun z => selL1 _ z) (fun a b => of1 (nm 0 0 0 z7 z7) rfl ⟨hr, hcan⟩) (fun h => absurd h (by show ¬ (1 : Nat) = 0; decide)) (fun _ _ h => absurd h (by show ¬ (Nat.beq 1 3 || Nat.beq 1 5) = true; decide)) (fun _ _ => ⟨rfl, rfl⟩) (fun _ _ => rfl) s1 s2 rfl rfl
      · refine kindF (v := ⟨zs, ys, cp1, cp2, f, 0, 0, cs.getD 7 0, cs.getD 8 0, 0, cut, cs⟩) (fun a b => ⟨2, 0, 0, 0, 0, 0, dkD (cs.getD 7 0), a, b⟩) (fun _ _ => ⟨rfl, rfl⟩) (fun a b => selB2 _ a b) (fun z => selL2 _ z) (fun a b => of2 (nm 0 0 0 z7 z7) rfl ⟨hr, hcan⟩) (fun h => absurd h (by show ¬ (2 : Nat) = 0; decide)) (fun _ _ h => absurd h (by show ¬ (Nat.beq 2 3 || Nat.beq 2 5) = true; decide)) (fun _ _ => ⟨rfl, rfl⟩) (fun _ _ => rfl) s1 s2 rfl rfl
      · obtain ⟨h, hh⟩ := Int.eq_ofNat_of_zero_le (show 0 ≤ b2 / 8 by omega)
        have h1 : h ≤ 1 := by omega
        have e : b2 = 8 * (h : Int) + b2 % 8 := by omega
        have hc2 := hcan
        rw [e] at hc2
        refine kindF (v := ⟨zs, ys, cp1, cp2, f, b2 % 8, 0, cs.getD 7 0, cs.getD 8 0, 0, cut, cs⟩) (fun a b => ⟨3, h, lbOf3 (b2 % 8), 0, 0, 0, dkB (cs.getD 7 0), a, b⟩) (fun _ _ => ⟨rfl, rfl⟩) (fun a b => selB3 h1 _ _ a b) (fun z => selL3 h1 _ _ z) (fun a b => of3 (nm (b2 % 8) 0 0 (by omega) z7) h1 rfl ⟨hr, hc2⟩) (fun h => absurd h (by show ¬ (3 : Nat) = 0; decide)) (fun _ _ _ h5 => ?_) (fun _ _ => ⟨rfl, rfl⟩) (fun _ _ => rfl) s1 s2 rfl rfl
        have := lbOf3_p (b2 % 8)
        have h5 : lbOf3 (b2 % 8) ≠ 5 := h5
        show b2 % 8 ≠ 5
        omega
      · obtain ⟨h, hh⟩ := Int.eq_ofNat_of_zero_le (show 0 ≤ i2 / 8 by omega)
        have h1 : h ≤ 1 := by omega
        have e : i2 = 8 * (h : Int) + i2 % 8 := by omega
        have key : ∀ ss : Nat, ss ≤ 3 → ss ≠ 0 → s = 2 ^ ss → Good #[.int .i64 f, argV 2 cs, .slice oa1 zs.length cp1, .slice oa2 ys.length cp2, .int .i64 cut] w := by
          intro ss hs3 hs0 hse
          have hc2 := hcan
          rw [e, hse] at hc2
          refine kindF (v := ⟨zs, ys, cp1, cp2, f, 0, i2 % 8, cs.getD 7 0, cs.getD 8 0, ss, cut, cs⟩) (fun a b => ⟨4, 0, 0, h, liOf h (i2 % 8), ss, dkD (cs.getD 7 0), a, b⟩) (fun _ _ => ⟨rfl, rfl⟩) (fun a b => selB4 h1 hs3 hs0 _ _ a b) (fun z => selL4 h1 hs3 hs0 _ _ z) (fun a b => of4 (nm 0 (i2 % 8) ss z7 (by omega)) h1 hs3 hs0 rfl (by show 8 * (h : Int) + i2 % 8 ≠ 4; omega) ⟨hr, hc2⟩) (fun h => absurd h (by show ¬ (4 : Nat) = 0; decide)) (fun _ _ h => absurd h (by show ¬ (Nat.beq 4 3 || Nat.beq 4 5) = true; decide)) (fun _ _ => ⟨rfl, rfl⟩) (fun _ _ => rfl) s1 s2 rfl rfl
        rcases hs with rfl | rfl | rfl
        · exact key 1 (by decide) (by decide) (by decide)
        · exact key 2 (by decide) (by decide) (by decide)
        · exact key 3 (by decide) (by decide) (by decide)
      · obtain ⟨h, hh⟩ := Int.eq_ofNat_of_zero_le (show 0 ≤ i2 / 8 by omega)
        have h1 : h ≤ 1 := by omega
        have e : i2 = 8 * (h : Int) + i2 % 8 := by omega
        obtain ⟨h', hh'⟩ := Int.eq_ofNat_of_zero_le (show 0 ≤ b2 / 8 by omega)
        have h1' : h' ≤ 1 := by omega
        have e' : b2 = 8 * (h' : Int) + b2 % 8 := by omega
        have key : ∀ ss : Nat, ss ≤ 3 → s = 2 ^ ss → Good #[.int .i64 f, argV 2 cs, .slice oa1 zs.length cp1, .slice oa2 ys.length cp2, .int .i64 cut] w := by
          intro ss hs3 hse
          have hc2 := hcan
          rw [e, e', hse] at hc2
          refine kindF (v := ⟨zs, ys, cp1, cp2, f, b2 % 8, i2 % 8, cs.getD 7 0, cs.getD 8 0, ss, cut, cs⟩) (fun a b => ⟨5, h', lbOf5 (b2 % 8), h, liOf h (i2 % 8), ss, dkB (cs.getD 7 0), a, b⟩) (fun _ _ => ⟨rfl, rfl⟩) (fun a b => selB5 h1' h1 hs3 _ _ _ a b) (fun z => selL5 h1' h1 hs3 _ _ _ z) (fun a b => of5 (nm (b2 % 8) (i2 % 8) ss (by omega) (by omega)) h1' h1 hs3 rfl (by show 8 * (h : Int) + i2 % 8 ≠ 4; omega) ⟨hr, hc2⟩) (fun h => absurd h (by show ¬ (5 : Nat) = 0; decide)) (fun _ _ _ h5 => ?_) (fun _ _ => ⟨rfl, rfl⟩) (fun _ _ => rfl) s1 s2 rfl rfl
          have := lbOf5_p (b2 % 8)
          have h5 : lbOf5 (b2 % 8) ≠ 5 := h5
          show b2 % 8 ≠ 5
          omega
        rcases hs with rfl | rfl | rfl | rfl
        · exact key 0 (by decide) (by decide)
        · exact key 1 (by decide) (by decide)
        · exact key 2 (by decide) (by decide)
        · exact key 3 (by decide) (by decide)
  · obtain ⟨e, hr⟩ := anyK cs k1 k2
    exact otherF hf.1 hf.2 k1 k2 hr

theorem walk (f : Int) (_ : (Lit.int .i64 f).wf = true) (l : List Int) (hl : l.length = 11) (_ : ∀ n ∈ l, (Lit.int .i64 n).wf = true) (s1 s2 : Value) (cut : Int) (_ : (Lit.int .i64 cut).wf = true) (w : World) (hs1 : SliceIn w .u8 s1) (hs2 : SliceIn w .u8 s2) :
    Calls Try.prog 6 #[.int .i64 f, .agg (l.map fun n => Value.int .i64 n).toArray, s1, s2, .int .i64 cut] w fun e w' => e = .returned (.bool true) ∧ RowKit.Below w.heap.size w w' := by
  obtain ⟨oa1, cp1, zs, rfl, h1⟩ := slOf hs1
  obtain ⟨oa2, cp2, ys, rfl, h2⟩ := slOf hs2
  match l, hl with
  | [k, m0, m1, m2, m3, m4, m5, m6, m7, m8, m9], _ => exact allF h1 h2 f k cut [m0, m1, m2, m3, m4, m5, m6, m7, m8, m9]

end Go.Proofs.Ytbenfglhomiocaa.modrmBack
