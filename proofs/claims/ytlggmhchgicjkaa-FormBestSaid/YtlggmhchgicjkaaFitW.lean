/-
  What shape.Fits gives of any form that may be told and any instruction of at most nine operands.
-/
import Derived.Test.YtlggmhchgicjkaaFtbW
import Derived.Test.YtlggmhchgicjkaaShpW
import Derived.Test.YtlggmhchgicjkaaInsW
import Derived.Test.YtlggmhchgicjkaaFitD
namespace Go.Proofs.Ytlggmhchgicjkaa.Tab
open Go.Sim
set_option maxRecDepth 100000

/-- What a function gives of this form, and of an instruction. -/
def XF (f : FuncId) (val : Nat → Int) (sla : Nat → Option Addr × Nat) (op : Int) (zs : List Int) (v : Value) : Prop := ∀ (E : Env) (w : World) (x : Value), @OutOK (nameS val sla) E w outsF → SliV w x zs →
  Calls Try.prog f #[@conc (nameS val sla) E fA, insV op x] w fun e w' => e = .returned v ∧ RowKit.Below w.heap.size w w'

theorem leE {x y z : Int} (h : x = y) (k : y ≤ z) : x ≤ z := by omega

theorem outF_congr {u v : Nat → Int} {sla sla' : Nat → Option Addr × Nat} {E E' : Env} {w : World} (h : ∀ k, dn0 k = true → u k = v k) (e0 : E'.ρ 0 = E.ρ 0) (e1 : E'.ρ 1 = E.ρ 1) (f0 : E'.κ 0 = E.κ 0) (f1 : E'.κ 1 = E.κ 1)
    (h4 : (v 11 ≤ 100 ∧ v 13 ≤ 100)) (hO : @OutOK (nameS u sla) E w outsF) : @OutOK (nameS v sla') E' w outsF := by
  have hz : ∀ k : Nat, k < 100 → u (400 + k) = v (400 + k) := fun k hk => h _ (by
    unfold dn0
    simp only [Bool.or_eq_true, Bool.and_eq_true]
    exact .inr ⟨Nat.ble_eq_true_of_le (by omega), Nat.ble_eq_true_of_le (by omega)⟩)
  have ht : ∀ k : Nat, k < 100 → u (500 + k) = v (500 + k) := fun k hk => h _ (by
    unfold dn0
    simp only [Bool.or_eq_true, Bool.and_eq_true]
    exact .inr ⟨Nat.ble_eq_true_of_le (by omega), Nat.ble_eq_true_of_le (by omega)⟩)
  have g0 := hO 0 _ rfl
  have g1 := hO 1 _ rfl
  intro k o hk
  match k with
  | 0 =>
    simp only [outsF, List.getElem?_cons_zero, Option.some.injEq] at hk
    subst hk
    refine ⟨by rw [e0]; exact g0.1, fun hne => absurd rfl hne, fun ki k0 m he => ?_⟩
    cases he
    have r := g0.2.2 .i64 400 (.a 11) rfl
    intro i hi
    have hi : (i : Int) < v 11 := hi
    have := r i (by show (i : Int) < u 11; rw [h 11 rfl]; exact hi)
    rw [e0, f0]
    rw [this]
    show some (Value.int .i64 (u (400 + i))) = some (Value.int .i64 (v (400 + i)))
    rw [hz i (by omega)]
  | 1 =>
    simp only [outsF, List.getElem?_cons_succ, List.getElem?_cons_zero, Option.some.injEq] at hk
    subst hk
    refine ⟨by rw [e1]; exact g1.1, fun hne => absurd rfl hne, fun ki k0 m he => ?_⟩
    cases he
    have r := g1.2.2 .i64 500 (.a 13) rfl
    intro i hi
    have hi : (i : Int) < v 13 := hi
    have := r i (by show (i : Int) < u 13; rw [h 13 rfl]; exact hi)
    rw [e1, f1]
    rw [this]
    show some (Value.int .i64 (u (500 + i))) = some (Value.int .i64 (v (500 + i)))
    rw [ht i (by omega)]
  | k + 2 => simp [outsF] at hk

theorem concF {u v : Nat → Int} {sla sla' : Nat → Option Addr × Nat} {E E' : Env} (h : ∀ k, dn0 k = true → u k = v k) (s0 : sla 0 = sla' 0) (s1 : sla 1 = sla' 1) (e0 : E'.ρ 0 = E.ρ 0) (e1 : E'.ρ 1 = E.ρ 1) (f0 : E'.κ 0 = E.κ 0) (f1 : E'.κ 1 = E.κ 1) :
    @conc (nameS u sla) E fA = @conc (nameS v sla') E' fA := by
  simp only [conc, concs, SX.eval, SB.eval, e0, e1, f0, f1]
  show Value.agg #[.int .i64 (u 20), .slice (if u 11 = 0 then (sla 0).1 else some ⟨E.ρ 0, E.κ 0 + (if u 12 = 0 then 0 else (0 : Int).toNat), none⟩) (u 11).toNat (if u 11 = 0 then (sla 0).2 else (u 12 - 0).toNat), .slice (if u 13 = 0 then (sla 1).1 else some ⟨E.ρ 1, E.κ 1 + (if u 14 = 0 then 0 else (0 : Int).toNat), none⟩) (u 13).toNat (if u 13 = 0 then (sla 1).2 else (u 14 - 0).toNat), .int .i64 (u 21), .int .i64 (u 22), .int .i64 (u 23), .int .i64 (u 24), .int .i64 (u 25), .bool (u 26 == 1), .int .i64 (u 27)] =
    Value.agg #[.int .i64 (v 20), .slice (if v 11 = 0 then (sla' 0).1 else some ⟨E.ρ 0, E.κ 0 + (if v 12 = 0 then 0 else (0 : Int).toNat), none⟩) (v 11).toNat (if v 11 = 0 then (sla' 0).2 else (v 12 - 0).toNat), .slice (if v 13 = 0 then (sla' 1).1 else some ⟨E.ρ 1, E.κ 1 + (if v 14 = 0 then 0 else (0 : Int).toNat), none⟩) (v 13).toNat (if v 13 = 0 then (sla' 1).2 else (v 14 - 0).toNat), .int .i64 (v 21), .int .i64 (v 22), .int .i64 (v 23), .int .i64 (v 24), .int .i64 (v 25), .bool (v 26 == 1), .int .i64 (v 27)]
  rw [h 20 rfl, h 11 rfl, h 12 rfl, h 13 rfl, h 14 rfl, h 21 rfl, h 22 rfl, h 23 rfl, h 24 rfl, h 25 rfl, h 26 rfl, h 27 rfl, s0, s1]

/-- The same form, by other names of other things. -/
theorem xf_congr {f : FuncId} {u v : Nat → Int} {sla sla' : Nat → Option Addr × Nat} {op : Int} {zs : List Int} {b : Value} (h : ∀ k, dn0 k = true → u k = v k) (s0 : sla 0 = sla' 0) (s1 : sla 1 = sla' 1) (h4 : u 11 ≤ 100 ∧ u 13 ≤ 100) (hx : XF f u sla op zs b) : XF f v sla' op zs b := by
  intro E w x hO hs
  have h' : ∀ k, dn0 k = true → v k = u k := fun k hk => (h k hk).symm
  have := hx E w x (outF_congr (E' := E) h' rfl rfl rfl rfl h4 hO) hs
  rw [concF (E' := E) h s0 s1 rfl rfl rfl rfl] at this
  exact this

theorem dn0_ne1 {op : Int} {zs : List Int} {r : Nat → Int} {c : Nat} : ∀ k, dn0 k = true → iv op zs (capR r c) k = iv op zs r k := fun k hk => iv_cap (by rintro rfl; cases hk)

theorem riF {f : FuncId} {n : Nat} (hn : 0 < n) (h9 : n ≤ 9) {op : Int} {zs : List Int} {r : Nat → Int} {sla : Nat → Option Addr × Nat} {v : Value} (hl : zs.length = 11 * n) (h4 : r 11 ≤ 100 ∧ r 13 ≤ 100)
    (h : ∀ c : Nat, n ≤ c → RetO Try.prog f [fA, instB 2 n] (outsN n) sla (iv op zs (capR r c)) v) : XF f (iv op zs r) sla op zs v := by
  intro E w x hO hx
  obtain ⟨b, off, cap, rfl, g1, g2, g3⟩ := sli_pos hn hl hx
  have h' : ∀ k, dn0 k = true → iv op zs r k = iv op zs (capR r cap) k := fun k hk => (dn0_ne1 k hk).symm
  have k := h cap g1 ⟨fun k => if k = 2 then b else E.ρ k, fun k => if k = 2 then off else E.κ k⟩ w (fun k o hk => by
    have q := outF_congr (E := E) (E' := ⟨fun k => if k = 2 then b else E.ρ k, fun k => if k = 2 then off else E.κ k⟩) (sla' := sla) h' rfl rfl rfl rfl (v := iv op zs (capR r cap)) h4 hO
    match k with
    | 0 => exact q 0 o (by simpa [outsN, outsF] using hk)
    | 1 => exact q 1 o (by simpa [outsN, outsF] using hk)
    | 2 =>
      simp only [outsN, List.getElem?_cons_succ, List.getElem?_cons_zero, Option.some.injEq] at hk
      subst hk
      refine ⟨g2, fun _ i u hu => ?_, fun ki k0 m he => by simp at he⟩
      have e := cl_concs (I := nameS (iv op zs (capR r cap)) sla) rfl h9 hl ⟨fun k => if k = 2 then b else E.ρ k, fun k => if k = 2 then off else E.κ k⟩
      refine g3 i _ ?_
      rw [← e, @concs_eq (nameS (iv op zs (capR r cap)) sla), List.getElem?_map]
      have hu : (cl n)[i]? = some u := hu
      rw [hu]
      rfl
    | k + 3 => simp [outsN] at hk)
  rw [concF (u := iv op zs r) (v := iv op zs (capR r cap)) (sla := sla) (sla' := sla) (E := E) (E' := ⟨fun k => if k = 2 then b else E.ρ k, fun k => if k = 2 then off else E.κ k⟩) h' rfl rfl rfl rfl rfl rfl]
  exact k

theorem riF0 {f : FuncId} {op : Int} {r : Nat → Int} {sla : Nat → Option Addr × Nat} {v : Value} (h4 : r 11 ≤ 100 ∧ r 13 ≤ 100) (h38 : r 38 = 0) (h : ∀ sla', sla 0 = sla' 0 → sla 1 = sla' 1 → SlaOK sla' → RetO Try.prog f [fA, instE] outsF sla' (iv op [] r) v) : XF f (iv op [] r) sla op [] v := by
  intro E w x hO hx
  obtain ⟨ad, cap, rfl, hc⟩ := sli_zero hx
  have h' : ∀ k, dn0 k = true → iv op [] r k = iv op [] r k := fun _ _ => rfl
  have k := h (fun k => if k = 38 then (ad, cap) else sla k) rfl rfl hc E w (outF_congr (E' := E) h' rfl rfl rfl rfl h4 hO)
  rw [concF (u := iv op [] r) (v := iv op [] r) (sla := sla) (sla' := fun k => if k = 38 then (ad, cap) else sla k) (E := E) (E' := E) h' rfl rfl rfl rfl rfl rfl]
  have e : @concs (nameS (iv op [] r) fun k => if k = 38 then (ad, cap) else sla k) E [fA, instE] = [@conc (nameS (iv op [] r) fun k => if k = 38 then (ad, cap) else sla k) E fA, insV op (.slice ad 0 cap)] := by
    show [_, @conc (nameS (iv op [] r) fun k => if k = 38 then (ad, cap) else sla k) E instE] = _
    have : @conc (nameS (iv op [] r) fun k => if k = 38 then (ad, cap) else sla k) E instE = insV op (.slice ad 0 cap) := by
      simp only [conc, concs]
      show Value.agg #[.int .i64 op, .slice ad (r 38).toNat cap] = _
      rw [h38]
      rfl
    rw [this]
  rw [e] at k
  exact k

/-- The cells of the k-th operand. -/
def arz (zs : List Int) (k : Nat) : Nat → Int := fun j => zs.getD (11 * k + j) 0

/-- One operand: does it fit its shape? -/
def FitsK (zs : List Int) (r : Nat → Int) (k : Nat) : Prop := (zs.getD (11 * k) 0 ≠ 3 → (r (40 + 40 * k + 33) == 1) = fitN (r (400 + k)) (givE (arz zs k) 0 0)) ∧ (zs.getD (11 * k) 0 = 3 → (r (40 + 40 * k + 34) == 1) = fitN (r (400 + k)) (givE (arz zs k) (r 5) (r (40 + 40 * k + 32))))

theorem giv_k {op : Int} {zs : List Int} {r : Nat → Int} {sla : Nat → Option Addr × Nat} {k : Nat} (hk : k < 9) (x y : AV) (b n : Int) (hx : @conc (nameS (iv op zs r) sla) E0 x = .int .i64 b) (hy : @conc (nameS (iv op zs r) sla) E0 y = .int .i64 n) :
    @concs (nameS (iv op zs r) sla) E0 [.agg (((List.range 11).map fun j => a (40 + 40 * k + j)) ++ [x, y])] = [givV (givE (arz zs k) b n)] := by
  have e := row_conc (op := op) (zs := zs) (r := r) (sla := sla) (k := k) hk
  simp only [concs, conc] at e
  have e : @concs (nameS (iv op zs r) sla) E0 ((List.range 11).map fun j => a (40 + 40 * k + j)) = (List.range 11).map fun j => Value.int .i64 (zs.getD (11 * k + j) 0) := by
    have := List.head_eq_of_cons_eq e
    simp only [argOf, Value.agg.injEq] at this
    exact congrArg Array.toList this
  rw [@concs_eq (nameS (iv op zs r) sla)] at e
  simp only [concs, conc]
  rw [@concs_eq (nameS (iv op zs r) sla), List.map_append, e]
  simp only [List.map_cons, List.map_nil, hx, hy]
  rfl

theorem kind_ne {op : Int} {zs : List Int} {r : Nat → Int} {k : Nat} (hk : k < 9) (h : (SB.not (.eq (.a (40 + 40 * k)) (.c 3))).eval (iv op zs r) = true) : zs.getD (11 * k) 0 ≠ 3 := by
  have e := iv_cell (op := op) (zs := zs) (r := r) (k := k) (j := 0) hk (by omega)
  simp only [SB.eval, SX.eval, Bool.not_eq_true', beq_eq_false_iff_ne] at h
  rw [Nat.add_zero, Nat.add_zero] at e
  rwa [e] at h

theorem kind_eq {op : Int} {zs : List Int} {r : Nat → Int} {k : Nat} (hk : k < 9) (h : (SB.eq (.a (40 + 40 * k)) (.c 3)).eval (iv op zs r) = true) : zs.getD (11 * k) 0 = 3 := by
  have e := iv_cell (op := op) (zs := zs) (r := r) (k := k) (j := 0) hk (by omega)
  simp only [SB.eval, SX.eval, beq_iff_eq] at h
  rw [Nat.add_zero, Nat.add_zero] at e
  rwa [e] at h

theorem pk_of {op : Int} {zs : List Int} {r : Nat → Int} {c : Nat} {sla : Nat → Option Addr × Nat} {k j : Nat} (hk : k < 9) (x y : AV) (b n : Int) (hx : @conc (nameS (iv op zs (capR r c)) sla) E0 x = .int .i64 b) (hy : @conc (nameS (iv op zs (capR r c)) sla) E0 y = .int .i64 n)
    {gd : SB} (hj : gd.eval (iv op zs (capR r c)) = true → (iv op zs (capR r c) j == 1) = fitN (r (400 + k)) (givE (arz zs k) b n)) : PkQ Try.prog clD (iv op zs (capR r c)) sla (gd, .a (400 + k), [.agg (((List.range 11).map fun j => a (40 + 40 * k + j)) ++ [x, y])], bo j) := by
  intro hgd d hd w ads h1 h2
  have hj := hj hgd
  have e4 : (SX.a (400 + k)).eval (iv op zs (capR r c)) = r (400 + k) := by
    show iv op zs (capR r c) (400 + k) = _
    rw [iv_cap (by omega), iv_r (by omega) (by omega)]
  rw [e4] at hd
  have hlt : (r (400 + k)).toNat < 35 := by
    have := (List.getElem?_eq_some_iff.1 hd).1
    exact this
  have q := fit_any _ hlt (givE (arz zs k) b n) d hd w ads h1 h2
  rw [giv_k hk x y b n hx hy]
  have e5 : @conc (nameS (iv op zs (capR r c)) sla) E0 (bo j) = .bool ((fitB.getD (r (400 + k)).toNat .ff).eval (givE (arz zs k) b n)) := by
    rw [← bo_conc (rfl : iv op zs (capR r c) j = _), hj]
    rfl
  rw [e5]
  exact q

/-- A form that is told: its Check, and shapes that lie within their bounds if it may be. -/
def FormR (u : Nat → Int) (n : Nat) : Prop := u 28 = 0 → u 11 = n → ∀ k, k < n → 1 ≤ u (400 + k) ∧ u (400 + k) ≤ 34

theorem fitR0 (u : Nat → Int) (h11 : 0 ≤ u 11 ∧ u 11 ≤ 100) (h13 : 0 ≤ u 13 ∧ u 13 ≤ 100) (h38 : u 38 = 0) : ∃ t : Int, (t = 1 → u 28 = 0 ∧ u 7 = 0 ∧ u 20 = u 0 ∧ u 11 = 0) ∧ ∀ (op : Int) (r : Nat → Int) (sla : Nat → Option Addr × Nat), Ag dnX u (iv op [] r) → (∀ (sla' : Nat → Option Addr × Nat) (c : Nat), RetO Try.prog 7 [fA] outsF sla' (iv op [] (capR r c)) (.int .i64 (r 28)) ∧ RetO Try.prog 7 [fA] outsF sla' (iv op [] r) (.int .i64 (r 28))) → RI 8 op [] (.int .i64 (r 7)) → RI 9 op [] (.tuple #[.int .i64 (r 5), .bool (r 6 == 1)]) → XF 6 (iv op [] r) sla op [] (.bool (t == 1)) := by
  have hF : Fits0 u := by
    by_cases h1 : u 11 = 0
    · by_cases h2 : u 28 = 0
      · exact fits0b u (fun f hf => by
      simp only [List.mem_cons, List.not_mem_nil, or_false] at hf
      rcases hf with rfl | rfl | rfl | rfl
      · exact h1
      · exact h2
      · exact h13.1
      · exact h38)
      · exact fits0a u (fun f hf => by
      simp only [List.mem_cons, List.not_mem_nil, or_false] at hf
      rcases hf with rfl | rfl | rfl | rfl
      · exact h1
      · exact h2
      · exact h13.1
      · exact h38)
    · exact fits0c u (fun f hf => by
      simp only [List.mem_cons, List.not_mem_nil, or_false] at hf
      rcases hf with rfl | rfl | rfl | rfl
      · exact h1
      · exact h11.1
      · exact h13.1
      · exact h38)
  obtain ⟨Y, _, hp, hc⟩ := hF
  refine ⟨Y.getD 0 0, fun h0 => ?_, ?_⟩
  · unfold RofP at hp
    simp only [P_fits0, SB.eval, SX.eval, getD_c, h0, Bool.or_eq_true, Bool.and_eq_true, Bool.not_eq_true', beq_iff_eq, beq_self_eq_true] at hp
    rcases hp with hp | hp
    · cases hp
    · exact hp
  · intro op r sla hag hC h8 h9
    have h38' : r 38 = 0 := (hag 38 rfl).trans h38
    refine riF0 ⟨leE (hag 11 rfl) h11.2, leE (hag 13 rfl) h13.2⟩ h38' fun sla' s0 s1 hs => ?_
    exact hc _ sla' hag holds_nil ⟨tNil, gNil, oCons (hC sla' 0).2 (a_conc rfl) oNil, mCons (me_of (fun w y hy => patE_of hs h38' hy) (by simp only [conc]; rfl) h8) (mCons (me_of (fun w y hy => patE_of hs h38' hy) (by simp only [conc, concs]; rfl) h9) mNil), kNil, xNil⟩ (6, [fA, instE], [.b 0]) (by simp [L_fits0])

theorem fitR1 (u : Nat → Int) (h28 : ∀ k, k < 1 → u 28 = 0 → u 11 = 1 → 1 ≤ u (400 + k) ∧ u (400 + k) ≤ 34) (h11 : 0 ≤ u 11 ∧ u 11 ≤ 100) (h13 : 0 ≤ u 13 ∧ u 13 ≤ 100) : ∃ t : Int, (t = 1 → u 28 = 0 ∧ u 7 = 0 ∧ u 20 = u 0 ∧ u 11 = 1) ∧ ∀ (op : Int) (zs : List Int) (r : Nat → Int) (sla : Nat → Option Addr × Nat), zs.length = 11 * 1 → Ag dnX u (iv op zs r) → (∀ (sla' : Nat → Option Addr × Nat) (c : Nat), RetO Try.prog 7 [fA] outsF sla' (iv op zs (capR r c)) (.int .i64 (r 28)) ∧ RetO Try.prog 7 [fA] outsF sla' (iv op zs r) (.int .i64 (r 28))) → RI 8 op zs (.int .i64 (r 7)) → RI 9 op zs (.tuple #[.int .i64 (r 5), .bool (r 6 == 1)]) → (zs.getD 0 0 = 3 → Ret Try.prog 11 [.int .i64 (zs.getD 10 0), .int .i64 (r 5), .bool (r 6 == 1)] (.tuple #[.int .i64 (r 72), .int .i64 (r 71)])) → FitsK zs r 0 → XF 6 (iv op zs r) sla op zs (.bool (t == 1)) := by
  have hF : Fits1 u := by
    by_cases h1 : u 11 = 1
    · by_cases h2 : u 28 = 0
      · exact fits1b u (fun f hf => by
      simp only [List.mem_cons, List.not_mem_nil, or_false] at hf
      rcases hf with rfl | rfl | rfl | rfl | rfl
      · exact h1
      · exact h2
      · exact (h28 0 (by omega) h2 h1).1
      · exact (h28 0 (by omega) h2 h1).2
      · exact h13.1)
      · exact fits1a u (fun f hf => by
      simp only [List.mem_cons, List.not_mem_nil, or_false] at hf
      rcases hf with rfl | rfl | rfl
      · exact h1
      · exact h2
      · exact h13.1)
    · exact fits1c u (fun f hf => by
      simp only [List.mem_cons, List.not_mem_nil, or_false] at hf
      rcases hf with rfl | rfl | rfl
      · exact h1
      · exact h11.1
      · exact h13.1)
  obtain ⟨Y, _, hp, hc⟩ := hF
  refine ⟨Y.getD 0 0, fun h0 => ?_, ?_⟩
  · unfold RofP at hp
    simp only [P_fits1, SB.eval, SX.eval, getD_c, h0, Bool.or_eq_true, Bool.and_eq_true, Bool.not_eq_true', beq_iff_eq, beq_self_eq_true] at hp
    rcases hp with hp | hp
    · cases hp
    · exact hp
  · intro op zs r sla hl hag hC h8 h9 i0 f0 
    refine riF (r := r) (by omega) (by omega) hl ⟨leE (hag 11 rfl) h11.2, leE (hag 13 rfl) h13.2⟩ fun c hcn => ?_
    exact hc _ sla (ag_cap hag rfl) (hcap hcn) ⟨tNil, (gCons (fun hg => by
      simp only [SB.eval, SX.eval, beq_iff_eq] at hg
      simp only [concs, conc]
      exact i0 hg) gNil), oCons (hC sla c).1 (a_conc rfl) oNil, mCons (me_of (fun w y hy => pat_of (by omega) hl hy) (by simp only [conc]; rfl) h8) (mCons (me_of (fun w y hy => pat_of (by omega) hl hy) (by simp only [conc, concs]; rfl) h9) mNil), (kCons (pk_of (k := 0) (by omega) (ci 0) (ci 0) 0 0 rfl rfl (fun hg => f0.1 (kind_ne (k := 0) (by omega) hg))) (kCons (pk_of (k := 0) (by omega) (a 5) (a 72) (r 5) (r 72) rfl rfl (fun hg => f0.2 (kind_eq (k := 0) (by omega) hg))) kNil)), xNil⟩ (6, [fA, instB 2 1], [.b 0]) (by simp [L_fits1])

theorem fitR2 (u : Nat → Int) (h28 : ∀ k, k < 2 → u 28 = 0 → u 11 = 2 → 1 ≤ u (400 + k) ∧ u (400 + k) ≤ 34) (h11 : 0 ≤ u 11 ∧ u 11 ≤ 100) (h13 : 0 ≤ u 13 ∧ u 13 ≤ 100) : ∃ t : Int, (t = 1 → u 28 = 0 ∧ u 7 = 0 ∧ u 20 = u 0 ∧ u 11 = 2) ∧ ∀ (op : Int) (zs : List Int) (r : Nat → Int) (sla : Nat → Option Addr × Nat), zs.length = 11 * 2 → Ag dnX u (iv op zs r) → (∀ (sla' : Nat → Option Addr × Nat) (c : Nat), RetO Try.prog 7 [fA] outsF sla' (iv op zs (capR r c)) (.int .i64 (r 28)) ∧ RetO Try.prog 7 [fA] outsF sla' (iv op zs r) (.int .i64 (r 28))) → RI 8 op zs (.int .i64 (r 7)) → RI 9 op zs (.tuple #[.int .i64 (r 5), .bool (r 6 == 1)]) → (zs.getD 0 0 = 3 → Ret Try.prog 11 [.int .i64 (zs.getD 10 0), .int .i64 (r 5), .bool (r 6 == 1)] (.tuple #[.int .i64 (r 72), .int .i64 (r 71)])) → (zs.getD 11 0 = 3 → Ret Try.prog 11 [.int .i64 (zs.getD 21 0), .int .i64 (r 5), .bool (r 6 == 1)] (.tuple #[.int .i64 (r 112), .int .i64 (r 111)])) → FitsK zs r 0 → FitsK zs r 1 → XF 6 (iv op zs r) sla op zs (.bool (t == 1)) := by
  have hF : Fits2 u := by
    by_cases h1 : u 11 = 2
    · by_cases h2 : u 28 = 0
      · exact fits2b u (fun f hf => by
      simp only [List.mem_cons, List.not_mem_nil, or_false] at hf
      rcases hf with rfl | rfl | rfl | rfl | rfl | rfl | rfl
      · exact h1
      · exact h2
      · exact (h28 0 (by omega) h2 h1).1
      · exact (h28 0 (by omega) h2 h1).2
      · exact (h28 1 (by omega) h2 h1).1
      · exact (h28 1 (by omega) h2 h1).2
      · exact h13.1)
      · exact fits2a u (fun f hf => by
      simp only [List.mem_cons, List.not_mem_nil, or_false] at hf
      rcases hf with rfl | rfl | rfl
      · exact h1
      · exact h2
      · exact h13.1)
    · exact fits2c u (fun f hf => by
      simp only [List.mem_cons, List.not_mem_nil, or_false] at hf
      rcases hf with rfl | rfl | rfl
      · exact h1
      · exact h11.1
      · exact h13.1)
  obtain ⟨Y, _, hp, hc⟩ := hF
  refine ⟨Y.getD 0 0, fun h0 => ?_, ?_⟩
  · unfold RofP at hp
    simp only [P_fits2, SB.eval, SX.eval, getD_c, h0, Bool.or_eq_true, Bool.and_eq_true, Bool.not_eq_true', beq_iff_eq, beq_self_eq_true] at hp
    rcases hp with hp | hp
    · cases hp
    · exact hp
  · intro op zs r sla hl hag hC h8 h9 i0 i1 f0 f1 
    refine riF (r := r) (by omega) (by omega) hl ⟨leE (hag 11 rfl) h11.2, leE (hag 13 rfl) h13.2⟩ fun c hcn => ?_
    exact hc _ sla (ag_cap hag rfl) (hcap hcn) ⟨tNil, (gCons (fun hg => by
      simp only [SB.eval, SX.eval, beq_iff_eq] at hg
      simp only [concs, conc]
      exact i0 hg) (gCons (fun hg => by
      simp only [SB.eval, SX.eval, beq_iff_eq] at hg
      simp only [concs, conc]
      exact i1 hg) gNil)), oCons (hC sla c).1 (a_conc rfl) oNil, mCons (me_of (fun w y hy => pat_of (by omega) hl hy) (by simp only [conc]; rfl) h8) (mCons (me_of (fun w y hy => pat_of (by omega) hl hy) (by simp only [conc, concs]; rfl) h9) mNil), (kCons (pk_of (k := 0) (by omega) (ci 0) (ci 0) 0 0 rfl rfl (fun hg => f0.1 (kind_ne (k := 0) (by omega) hg))) (kCons (pk_of (k := 0) (by omega) (a 5) (a 72) (r 5) (r 72) rfl rfl (fun hg => f0.2 (kind_eq (k := 0) (by omega) hg))) (kCons (pk_of (k := 1) (by omega) (ci 0) (ci 0) 0 0 rfl rfl (fun hg => f1.1 (kind_ne (k := 1) (by omega) hg))) (kCons (pk_of (k := 1) (by omega) (a 5) (a 112) (r 5) (r 112) rfl rfl (fun hg => f1.2 (kind_eq (k := 1) (by omega) hg))) kNil)))), xNil⟩ (6, [fA, instB 2 2], [.b 0]) (by simp [L_fits2])

theorem fitR3 (u : Nat → Int) (h28 : ∀ k, k < 3 → u 28 = 0 → u 11 = 3 → 1 ≤ u (400 + k) ∧ u (400 + k) ≤ 34) (h11 : 0 ≤ u 11 ∧ u 11 ≤ 100) (h13 : 0 ≤ u 13 ∧ u 13 ≤ 100) : ∃ t : Int, (t = 1 → u 28 = 0 ∧ u 7 = 0 ∧ u 20 = u 0 ∧ u 11 = 3) ∧ ∀ (op : Int) (zs : List Int) (r : Nat → Int) (sla : Nat → Option Addr × Nat), zs.length = 11 * 3 → Ag dnX u (iv op zs r) → (∀ (sla' : Nat → Option Addr × Nat) (c : Nat), RetO Try.prog 7 [fA] outsF sla' (iv op zs (capR r c)) (.int .i64 (r 28)) ∧ RetO Try.prog 7 [fA] outsF sla' (iv op zs r) (.int .i64 (r 28))) → RI 8 op zs (.int .i64 (r 7)) → RI 9 op zs (.tuple #[.int .i64 (r 5), .bool (r 6 == 1)]) → (zs.getD 0 0 = 3 → Ret Try.prog 11 [.int .i64 (zs.getD 10 0), .int .i64 (r 5), .bool (r 6 == 1)] (.tuple #[.int .i64 (r 72), .int .i64 (r 71)])) → (zs.getD 11 0 = 3 → Ret Try.prog 11 [.int .i64 (zs.getD 21 0), .int .i64 (r 5), .bool (r 6 == 1)] (.tuple #[.int .i64 (r 112), .int .i64 (r 111)])) → (zs.getD 22 0 = 3 → Ret Try.prog 11 [.int .i64 (zs.getD 32 0), .int .i64 (r 5), .bool (r 6 == 1)] (.tuple #[.int .i64 (r 152), .int .i64 (r 151)])) → FitsK zs r 0 → FitsK zs r 1 → FitsK zs r 2 → XF 6 (iv op zs r) sla op zs (.bool (t == 1)) := by
  have hF : Fits3 u := by
    by_cases h1 : u 11 = 3
    · by_cases h2 : u 28 = 0
      · exact fits3b u (fun f hf => by
      simp only [List.mem_cons, List.not_mem_nil, or_false] at hf
      rcases hf with rfl | rfl | rfl | rfl | rfl | rfl | rfl | rfl | rfl
      · exact h1
      · exact h2
      · exact (h28 0 (by omega) h2 h1).1
      · exact (h28 0 (by omega) h2 h1).2
      · exact (h28 1 (by omega) h2 h1).1
      · exact (h28 1 (by omega) h2 h1).2
      · exact (h28 2 (by omega) h2 h1).1
      · exact (h28 2 (by omega) h2 h1).2
      · exact h13.1)
      · exact fits3a u (fun f hf => by
      simp only [List.mem_cons, List.not_mem_nil, or_false] at hf
      rcases hf with rfl | rfl | rfl
      · exact h1
      · exact h2
      · exact h13.1)
    · exact fits3c u (fun f hf => by
      simp only [List.mem_cons, List.not_mem_nil, or_false] at hf
      rcases hf with rfl | rfl | rfl
      · exact h1
      · exact h11.1
      · exact h13.1)
  obtain ⟨Y, _, hp, hc⟩ := hF
  refine ⟨Y.getD 0 0, fun h0 => ?_, ?_⟩
  · unfold RofP at hp
    simp only [P_fits3, SB.eval, SX.eval, getD_c, h0, Bool.or_eq_true, Bool.and_eq_true, Bool.not_eq_true', beq_iff_eq, beq_self_eq_true] at hp
    rcases hp with hp | hp
    · cases hp
    · exact hp
  · intro op zs r sla hl hag hC h8 h9 i0 i1 i2 f0 f1 f2 
    refine riF (r := r) (by omega) (by omega) hl ⟨leE (hag 11 rfl) h11.2, leE (hag 13 rfl) h13.2⟩ fun c hcn => ?_
    exact hc _ sla (ag_cap hag rfl) (hcap hcn) ⟨tNil, (gCons (fun hg => by
      simp only [SB.eval, SX.eval, beq_iff_eq] at hg
      simp only [concs, conc]
      exact i0 hg) (gCons (fun hg => by
      simp only [SB.eval, SX.eval, beq_iff_eq] at hg
      simp only [concs, conc]
      exact i1 hg) (gCons (fun hg => by
      simp only [SB.eval, SX.eval, beq_iff_eq] at hg
      simp only [concs, conc]
      exact i2 hg) gNil))), oCons (hC sla c).1 (a_conc rfl) oNil, mCons (me_of (fun w y hy => pat_of (by omega) hl hy) (by simp only [conc]; rfl) h8) (mCons (me_of (fun w y hy => pat_of (by omega) hl hy) (by simp only [conc, concs]; rfl) h9) mNil), (kCons (pk_of (k := 0) (by omega) (ci 0) (ci 0) 0 0 rfl rfl (fun hg => f0.1 (kind_ne (k := 0) (by omega) hg))) (kCons (pk_of (k := 0) (by omega) (a 5) (a 72) (r 5) (r 72) rfl rfl (fun hg => f0.2 (kind_eq (k := 0) (by omega) hg))) (kCons (pk_of (k := 1) (by omega) (ci 0) (ci 0) 0 0 rfl rfl (fun hg => f1.1 (kind_ne (k := 1) (by omega) hg))) (kCons (pk_of (k := 1) (by omega) (a 5) (a 112) (r 5) (r 112) rfl rfl (fun hg => f1.2 (kind_eq (k := 1) (by omega) hg))) (kCons (pk_of (k := 2) (by omega) (ci 0) (ci 0) 0 0 rfl rfl (fun hg => f2.1 (kind_ne (k := 2) (by omega) hg))) (kCons (pk_of (k := 2) (by omega) (a 5) (a 152) (r 5) (r 152) rfl rfl (fun hg => f2.2 (kind_eq (k := 2) (by omega) hg))) kNil)))))), xNil⟩ (6, [fA, instB 2 3], [.b 0]) (by simp [L_fits3])

theorem fitR4 (u : Nat → Int) (h28 : ∀ k, k < 4 → u 28 = 0 → u 11 = 4 → 1 ≤ u (400 + k) ∧ u (400 + k) ≤ 34) (h11 : 0 ≤ u 11 ∧ u 11 ≤ 100) (h13 : 0 ≤ u 13 ∧ u 13 ≤ 100) : ∃ t : Int, (t = 1 → u 28 = 0 ∧ u 7 = 0 ∧ u 20 = u 0 ∧ u 11 = 4) ∧ ∀ (op : Int) (zs : List Int) (r : Nat → Int) (sla : Nat → Option Addr × Nat), zs.length = 11 * 4 → Ag dnX u (iv op zs r) → (∀ (sla' : Nat → Option Addr × Nat) (c : Nat), RetO Try.prog 7 [fA] outsF sla' (iv op zs (capR r c)) (.int .i64 (r 28)) ∧ RetO Try.prog 7 [fA] outsF sla' (iv op zs r) (.int .i64 (r 28))) → RI 8 op zs (.int .i64 (r 7)) → RI 9 op zs (.tuple #[.int .i64 (r 5), .bool (r 6 == 1)]) → (zs.getD 0 0 = 3 → Ret Try.prog 11 [.int .i64 (zs.getD 10 0), .int .i64 (r 5), .bool (r 6 == 1)] (.tuple #[.int .i64 (r 72), .int .i64 (r 71)])) → (zs.getD 11 0 = 3 → Ret Try.prog 11 [.int .i64 (zs.getD 21 0), .int .i64 (r 5), .bool (r 6 == 1)] (.tuple #[.int .i64 (r 112), .int .i64 (r 111)])) → (zs.getD 22 0 = 3 → Ret Try.prog 11 [.int .i64 (zs.getD 32 0), .int .i64 (r 5), .bool (r 6 == 1)] (.tuple #[.int .i64 (r 152), .int .i64 (r 151)])) → (zs.getD 33 0 = 3 → Ret Try.prog 11 [.int .i64 (zs.getD 43 0), .int .i64 (r 5), .bool (r 6 == 1)] (.tuple #[.int .i64 (r 192), .int .i64 (r 191)])) → FitsK zs r 0 → FitsK zs r 1 → FitsK zs r 2 → FitsK zs r 3 → XF 6 (iv op zs r) sla op zs (.bool (t == 1)) := by
  have hF : Fits4 u := by
    by_cases h1 : u 11 = 4
    · by_cases h2 : u 28 = 0
      · exact fits4b u (fun f hf => by
      simp only [List.mem_cons, List.not_mem_nil, or_false] at hf
      rcases hf with rfl | rfl | rfl | rfl | rfl | rfl | rfl | rfl | rfl | rfl | rfl
      · exact h1
      · exact h2
      · exact (h28 0 (by omega) h2 h1).1
      · exact (h28 0 (by omega) h2 h1).2
      · exact (h28 1 (by omega) h2 h1).1
      · exact (h28 1 (by omega) h2 h1).2
      · exact (h28 2 (by omega) h2 h1).1
      · exact (h28 2 (by omega) h2 h1).2
      · exact (h28 3 (by omega) h2 h1).1
      · exact (h28 3 (by omega) h2 h1).2
      · exact h13.1)
      · exact fits4a u (fun f hf => by
      simp only [List.mem_cons, List.not_mem_nil, or_false] at hf
      rcases hf with rfl | rfl | rfl
      · exact h1
      · exact h2
      · exact h13.1)
    · exact fits4c u (fun f hf => by
      simp only [List.mem_cons, List.not_mem_nil, or_false] at hf
      rcases hf with rfl | rfl | rfl
      · exact h1
      · exact h11.1
      · exact h13.1)
  obtain ⟨Y, _, hp, hc⟩ := hF
  refine ⟨Y.getD 0 0, fun h0 => ?_, ?_⟩
  · unfold RofP at hp
    simp only [P_fits4, SB.eval, SX.eval, getD_c, h0, Bool.or_eq_true, Bool.and_eq_true, Bool.not_eq_true', beq_iff_eq, beq_self_eq_true] at hp
    rcases hp with hp | hp
    · cases hp
    · exact hp
  · intro op zs r sla hl hag hC h8 h9 i0 i1 i2 i3 f0 f1 f2 f3 
    refine riF (r := r) (by omega) (by omega) hl ⟨leE (hag 11 rfl) h11.2, leE (hag 13 rfl) h13.2⟩ fun c hcn => ?_
    exact hc _ sla (ag_cap hag rfl) (hcap hcn) ⟨tNil, (gCons (fun hg => by
      simp only [SB.eval, SX.eval, beq_iff_eq] at hg
      simp only [concs, conc]
      exact i0 hg) (gCons (fun hg => by
      simp only [SB.eval, SX.eval, beq_iff_eq] at hg
      simp only [concs, conc]
      exact i1 hg) (gCons (fun hg => by
      simp only [SB.eval, SX.eval, beq_iff_eq] at hg
      simp only [concs, conc]
      exact i2 hg) (gCons (fun hg => by
      simp only [SB.eval, SX.eval, beq_iff_eq] at hg
      simp only [concs, conc]
      exact i3 hg) gNil)))), oCons (hC sla c).1 (a_conc rfl) oNil, mCons (me_of (fun w y hy => pat_of (by omega) hl hy) (by simp only [conc]; rfl) h8) (mCons (me_of (fun w y hy => pat_of (by omega) hl hy) (by simp only [conc, concs]; rfl) h9) mNil), (kCons (pk_of (k := 0) (by omega) (ci 0) (ci 0) 0 0 rfl rfl (fun hg => f0.1 (kind_ne (k := 0) (by omega) hg))) (kCons (pk_of (k := 0) (by omega) (a 5) (a 72) (r 5) (r 72) rfl rfl (fun hg => f0.2 (kind_eq (k := 0) (by omega) hg))) (kCons (pk_of (k := 1) (by omega) (ci 0) (ci 0) 0 0 rfl rfl (fun hg => f1.1 (kind_ne (k := 1) (by omega) hg))) (kCons (pk_of (k := 1) (by omega) (a 5) (a 112) (r 5) (r 112) rfl rfl (fun hg => f1.2 (kind_eq (k := 1) (by omega) hg))) (kCons (pk_of (k := 2) (by omega) (ci 0) (ci 0) 0 0 rfl rfl (fun hg => f2.1 (kind_ne (k := 2) (by omega) hg))) (kCons (pk_of (k := 2) (by omega) (a 5) (a 152) (r 5) (r 152) rfl rfl (fun hg => f2.2 (kind_eq (k := 2) (by omega) hg))) (kCons (pk_of (k := 3) (by omega) (ci 0) (ci 0) 0 0 rfl rfl (fun hg => f3.1 (kind_ne (k := 3) (by omega) hg))) (kCons (pk_of (k := 3) (by omega) (a 5) (a 192) (r 5) (r 192) rfl rfl (fun hg => f3.2 (kind_eq (k := 3) (by omega) hg))) kNil)))))))), xNil⟩ (6, [fA, instB 2 4], [.b 0]) (by simp [L_fits4])

theorem fitR5 (u : Nat → Int) (h28 : u 28 = 0 → u 11 ≠ 5) (h11 : 0 ≤ u 11 ∧ u 11 ≤ 100) (h13 : 0 ≤ u 13 ∧ u 13 ≤ 100) : ∃ t : Int, (t = 1 → u 28 = 0 ∧ u 7 = 0 ∧ u 20 = u 0 ∧ u 11 = 5) ∧ ∀ (op : Int) (zs : List Int) (r : Nat → Int) (sla : Nat → Option Addr × Nat), zs.length = 11 * 5 → Ag dnX u (iv op zs r) → (∀ (sla' : Nat → Option Addr × Nat) (c : Nat), RetO Try.prog 7 [fA] outsF sla' (iv op zs (capR r c)) (.int .i64 (r 28)) ∧ RetO Try.prog 7 [fA] outsF sla' (iv op zs r) (.int .i64 (r 28))) → RI 8 op zs (.int .i64 (r 7)) → RI 9 op zs (.tuple #[.int .i64 (r 5), .bool (r 6 == 1)]) → XF 6 (iv op zs r) sla op zs (.bool (t == 1)) := by
  have hF : Fits5 u := by
    by_cases h1 : u 11 = 5
    · by_cases h2 : u 28 = 0
      · exact absurd h1 (h28 h2)
      · exact fits5a u (fun f hf => by
      simp only [List.mem_cons, List.not_mem_nil, or_false] at hf
      rcases hf with rfl | rfl | rfl
      · exact h1
      · exact h2
      · exact h13.1)
    · exact fits5c u (fun f hf => by
      simp only [List.mem_cons, List.not_mem_nil, or_false] at hf
      rcases hf with rfl | rfl | rfl
      · exact h1
      · exact h11.1
      · exact h13.1)
  obtain ⟨Y, _, hp, hc⟩ := hF
  refine ⟨Y.getD 0 0, fun h0 => ?_, ?_⟩
  · unfold RofP at hp
    simp only [P_fits5, SB.eval, SX.eval, getD_c, h0, Bool.or_eq_true, Bool.and_eq_true, Bool.not_eq_true', beq_iff_eq, beq_self_eq_true] at hp
    rcases hp with hp | hp
    · cases hp
    · exact hp
  · intro op zs r sla hl hag hC h8 h9 
    refine riF (r := r) (by omega) (by omega) hl ⟨leE (hag 11 rfl) h11.2, leE (hag 13 rfl) h13.2⟩ fun c hcn => ?_
    exact hc _ sla (ag_cap hag rfl) (hcap hcn) ⟨tNil, gNil, oCons (hC sla c).1 (a_conc rfl) oNil, mCons (me_of (fun w y hy => pat_of (by omega) hl hy) (by simp only [conc]; rfl) h8) (mCons (me_of (fun w y hy => pat_of (by omega) hl hy) (by simp only [conc, concs]; rfl) h9) mNil), kNil, xNil⟩ (6, [fA, instB 2 5], [.b 0]) (by simp [L_fits5])

theorem fitR6 (u : Nat → Int) (h28 : u 28 = 0 → u 11 ≠ 6) (h11 : 0 ≤ u 11 ∧ u 11 ≤ 100) (h13 : 0 ≤ u 13 ∧ u 13 ≤ 100) : ∃ t : Int, (t = 1 → u 28 = 0 ∧ u 7 = 0 ∧ u 20 = u 0 ∧ u 11 = 6) ∧ ∀ (op : Int) (zs : List Int) (r : Nat → Int) (sla : Nat → Option Addr × Nat), zs.length = 11 * 6 → Ag dnX u (iv op zs r) → (∀ (sla' : Nat → Option Addr × Nat) (c : Nat), RetO Try.prog 7 [fA] outsF sla' (iv op zs (capR r c)) (.int .i64 (r 28)) ∧ RetO Try.prog 7 [fA] outsF sla' (iv op zs r) (.int .i64 (r 28))) → RI 8 op zs (.int .i64 (r 7)) → RI 9 op zs (.tuple #[.int .i64 (r 5), .bool (r 6 == 1)]) → XF 6 (iv op zs r) sla op zs (.bool (t == 1)) := by
  have hF : Fits6 u := by
    by_cases h1 : u 11 = 6
    · by_cases h2 : u 28 = 0
      · exact absurd h1 (h28 h2)
      · exact fits6a u (fun f hf => by
      simp only [List.mem_cons, List.not_mem_nil, or_false] at hf
      rcases hf with rfl | rfl | rfl
      · exact h1
      · exact h2
      · exact h13.1)
    · exact fits6c u (fun f hf => by
      simp only [List.mem_cons, List.not_mem_nil, or_false] at hf
      rcases hf with rfl | rfl | rfl
      · exact h1
      · exact h11.1
      · exact h13.1)
  obtain ⟨Y, _, hp, hc⟩ := hF
  refine ⟨Y.getD 0 0, fun h0 => ?_, ?_⟩
  · unfold RofP at hp
    simp only [P_fits6, SB.eval, SX.eval, getD_c, h0, Bool.or_eq_true, Bool.and_eq_true, Bool.not_eq_true', beq_iff_eq, beq_self_eq_true] at hp
    rcases hp with hp | hp
    · cases hp
    · exact hp
  · intro op zs r sla hl hag hC h8 h9 
    refine riF (r := r) (by omega) (by omega) hl ⟨leE (hag 11 rfl) h11.2, leE (hag 13 rfl) h13.2⟩ fun c hcn => ?_
    exact hc _ sla (ag_cap hag rfl) (hcap hcn) ⟨tNil, gNil, oCons (hC sla c).1 (a_conc rfl) oNil, mCons (me_of (fun w y hy => pat_of (by omega) hl hy) (by simp only [conc]; rfl) h8) (mCons (me_of (fun w y hy => pat_of (by omega) hl hy) (by simp only [conc, concs]; rfl) h9) mNil), kNil, xNil⟩ (6, [fA, instB 2 6], [.b 0]) (by simp [L_fits6])

theorem fitR7 (u : Nat → Int) (h28 : u 28 = 0 → u 11 ≠ 7) (h11 : 0 ≤ u 11 ∧ u 11 ≤ 100) (h13 : 0 ≤ u 13 ∧ u 13 ≤ 100) : ∃ t : Int, (t = 1 → u 28 = 0 ∧ u 7 = 0 ∧ u 20 = u 0 ∧ u 11 = 7) ∧ ∀ (op : Int) (zs : List Int) (r : Nat → Int) (sla : Nat → Option Addr × Nat), zs.length = 11 * 7 → Ag dnX u (iv op zs r) → (∀ (sla' : Nat → Option Addr × Nat) (c : Nat), RetO Try.prog 7 [fA] outsF sla' (iv op zs (capR r c)) (.int .i64 (r 28)) ∧ RetO Try.prog 7 [fA] outsF sla' (iv op zs r) (.int .i64 (r 28))) → RI 8 op zs (.int .i64 (r 7)) → RI 9 op zs (.tuple #[.int .i64 (r 5), .bool (r 6 == 1)]) → XF 6 (iv op zs r) sla op zs (.bool (t == 1)) := by
  have hF : Fits7 u := by
    by_cases h1 : u 11 = 7
    · by_cases h2 : u 28 = 0
      · exact absurd h1 (h28 h2)
      · exact fits7a u (fun f hf => by
      simp only [List.mem_cons, List.not_mem_nil, or_false] at hf
      rcases hf with rfl | rfl | rfl
      · exact h1
      · exact h2
      · exact h13.1)
    · exact fits7c u (fun f hf => by
      simp only [List.mem_cons, List.not_mem_nil, or_false] at hf
      rcases hf with rfl | rfl | rfl
      · exact h1
      · exact h11.1
      · exact h13.1)
  obtain ⟨Y, _, hp, hc⟩ := hF
  refine ⟨Y.getD 0 0, fun h0 => ?_, ?_⟩
  · unfold RofP at hp
    simp only [P_fits7, SB.eval, SX.eval, getD_c, h0, Bool.or_eq_true, Bool.and_eq_true, Bool.not_eq_true', beq_iff_eq, beq_self_eq_true] at hp
    rcases hp with hp | hp
    · cases hp
    · exact hp
  · intro op zs r sla hl hag hC h8 h9 
    refine riF (r := r) (by omega) (by omega) hl ⟨leE (hag 11 rfl) h11.2, leE (hag 13 rfl) h13.2⟩ fun c hcn => ?_
    exact hc _ sla (ag_cap hag rfl) (hcap hcn) ⟨tNil, gNil, oCons (hC sla c).1 (a_conc rfl) oNil, mCons (me_of (fun w y hy => pat_of (by omega) hl hy) (by simp only [conc]; rfl) h8) (mCons (me_of (fun w y hy => pat_of (by omega) hl hy) (by simp only [conc, concs]; rfl) h9) mNil), kNil, xNil⟩ (6, [fA, instB 2 7], [.b 0]) (by simp [L_fits7])

theorem fitR8 (u : Nat → Int) (h28 : u 28 = 0 → u 11 ≠ 8) (h11 : 0 ≤ u 11 ∧ u 11 ≤ 100) (h13 : 0 ≤ u 13 ∧ u 13 ≤ 100) : ∃ t : Int, (t = 1 → u 28 = 0 ∧ u 7 = 0 ∧ u 20 = u 0 ∧ u 11 = 8) ∧ ∀ (op : Int) (zs : List Int) (r : Nat → Int) (sla : Nat → Option Addr × Nat), zs.length = 11 * 8 → Ag dnX u (iv op zs r) → (∀ (sla' : Nat → Option Addr × Nat) (c : Nat), RetO Try.prog 7 [fA] outsF sla' (iv op zs (capR r c)) (.int .i64 (r 28)) ∧ RetO Try.prog 7 [fA] outsF sla' (iv op zs r) (.int .i64 (r 28))) → RI 8 op zs (.int .i64 (r 7)) → RI 9 op zs (.tuple #[.int .i64 (r 5), .bool (r 6 == 1)]) → XF 6 (iv op zs r) sla op zs (.bool (t == 1)) := by
  have hF : Fits8 u := by
    by_cases h1 : u 11 = 8
    · by_cases h2 : u 28 = 0
      · exact absurd h1 (h28 h2)
      · exact fits8a u (fun f hf => by
      simp only [List.mem_cons, List.not_mem_nil, or_false] at hf
      rcases hf with rfl | rfl | rfl
      · exact h1
      · exact h2
      · exact h13.1)
    · exact fits8c u (fun f hf => by
      simp only [List.mem_cons, List.not_mem_nil, or_false] at hf
      rcases hf with rfl | rfl | rfl
      · exact h1
      · exact h11.1
      · exact h13.1)
  obtain ⟨Y, _, hp, hc⟩ := hF
  refine ⟨Y.getD 0 0, fun h0 => ?_, ?_⟩
  · unfold RofP at hp
    simp only [P_fits8, SB.eval, SX.eval, getD_c, h0, Bool.or_eq_true, Bool.and_eq_true, Bool.not_eq_true', beq_iff_eq, beq_self_eq_true] at hp
    rcases hp with hp | hp
    · cases hp
    · exact hp
  · intro op zs r sla hl hag hC h8 h9 
    refine riF (r := r) (by omega) (by omega) hl ⟨leE (hag 11 rfl) h11.2, leE (hag 13 rfl) h13.2⟩ fun c hcn => ?_
    exact hc _ sla (ag_cap hag rfl) (hcap hcn) ⟨tNil, gNil, oCons (hC sla c).1 (a_conc rfl) oNil, mCons (me_of (fun w y hy => pat_of (by omega) hl hy) (by simp only [conc]; rfl) h8) (mCons (me_of (fun w y hy => pat_of (by omega) hl hy) (by simp only [conc, concs]; rfl) h9) mNil), kNil, xNil⟩ (6, [fA, instB 2 8], [.b 0]) (by simp [L_fits8])

theorem fitR9 (u : Nat → Int) (h28 : u 28 = 0 → u 11 ≠ 9) (h11 : 0 ≤ u 11 ∧ u 11 ≤ 100) (h13 : 0 ≤ u 13 ∧ u 13 ≤ 100) : ∃ t : Int, (t = 1 → u 28 = 0 ∧ u 7 = 0 ∧ u 20 = u 0 ∧ u 11 = 9) ∧ ∀ (op : Int) (zs : List Int) (r : Nat → Int) (sla : Nat → Option Addr × Nat), zs.length = 11 * 9 → Ag dnX u (iv op zs r) → (∀ (sla' : Nat → Option Addr × Nat) (c : Nat), RetO Try.prog 7 [fA] outsF sla' (iv op zs (capR r c)) (.int .i64 (r 28)) ∧ RetO Try.prog 7 [fA] outsF sla' (iv op zs r) (.int .i64 (r 28))) → RI 8 op zs (.int .i64 (r 7)) → RI 9 op zs (.tuple #[.int .i64 (r 5), .bool (r 6 == 1)]) → XF 6 (iv op zs r) sla op zs (.bool (t == 1)) := by
  have hF : Fits9 u := by
    by_cases h1 : u 11 = 9
    · by_cases h2 : u 28 = 0
      · exact absurd h1 (h28 h2)
      · exact fits9a u (fun f hf => by
      simp only [List.mem_cons, List.not_mem_nil, or_false] at hf
      rcases hf with rfl | rfl | rfl
      · exact h1
      · exact h2
      · exact h13.1)
    · exact fits9c u (fun f hf => by
      simp only [List.mem_cons, List.not_mem_nil, or_false] at hf
      rcases hf with rfl | rfl | rfl
      · exact h1
      · exact h11.1
      · exact h13.1)
  obtain ⟨Y, _, hp, hc⟩ := hF
  refine ⟨Y.getD 0 0, fun h0 => ?_, ?_⟩
  · unfold RofP at hp
    simp only [P_fits9, SB.eval, SX.eval, getD_c, h0, Bool.or_eq_true, Bool.and_eq_true, Bool.not_eq_true', beq_iff_eq, beq_self_eq_true] at hp
    rcases hp with hp | hp
    · cases hp
    · exact hp
  · intro op zs r sla hl hag hC h8 h9 
    refine riF (r := r) (by omega) (by omega) hl ⟨leE (hag 11 rfl) h11.2, leE (hag 13 rfl) h13.2⟩ fun c hcn => ?_
    exact hc _ sla (ag_cap hag rfl) (hcap hcn) ⟨tNil, gNil, oCons (hC sla c).1 (a_conc rfl) oNil, mCons (me_of (fun w y hy => pat_of (by omega) hl hy) (by simp only [conc]; rfl) h8) (mCons (me_of (fun w y hy => pat_of (by omega) hl hy) (by simp only [conc, concs]; rfl) h9) mNil), kNil, xNil⟩ (6, [fA, instB 2 9], [.b 0]) (by simp [L_fits9])

theorem fitR0z (u : Nat → Int) (h11 : u 11 = 0) (h13 : u 13 = 0) (h38 : u 38 = 0) : ∃ t : Int, (t = 1 → u 28 = 0 ∧ u 7 = 0 ∧ u 20 = u 0 ∧ u 11 = 0) ∧ ∀ (op : Int) (r : Nat → Int) (sla : Nat → Option Addr × Nat), Ag dnX u (iv op [] r) → (∀ (sla' : Nat → Option Addr × Nat) (c : Nat), RetO Try.prog 7 [fZ] [] sla' (iv op [] (capR r c)) (.int .i64 (r 28)) ∧ RetO Try.prog 7 [fZ] [] sla' (iv op [] r) (.int .i64 (r 28))) → RI 8 op [] (.int .i64 (r 7)) → RI 9 op [] (.tuple #[.int .i64 (r 5), .bool (r 6 == 1)]) → (∀ (E : Env) (w : World) (x : Value), SliV w x [] → Calls Try.prog 6 #[@conc (nameS (iv op [] r) sla) E fZ, insV op x] w fun e w' => e = .returned (.bool (t == 1)) ∧ RowKit.Below w.heap.size w w') := by
  have hF : Fits0z u := by
    by_cases h2 : u 28 = 0
    · exact fits0zb u (fun f hf => by
      simp only [List.mem_cons, List.not_mem_nil, or_false] at hf
      rcases hf with rfl | rfl | rfl | rfl
      · exact h11
      · exact h2
      · exact h13
      · exact h38)
    · exact fits0za u (fun f hf => by
      simp only [List.mem_cons, List.not_mem_nil, or_false] at hf
      rcases hf with rfl | rfl | rfl | rfl
      · exact h11
      · exact h2
      · exact h13
      · exact h38)
  obtain ⟨Y, _, hp, hc⟩ := hF
  refine ⟨Y.getD 0 0, fun h0 => ?_, ?_⟩
  · unfold RofP at hp
    simp only [P_fits0z, SB.eval, SX.eval, getD_c, h0, Bool.or_eq_true, Bool.and_eq_true, Bool.not_eq_true', beq_iff_eq, beq_self_eq_true] at hp
    rcases hp with hp | hp
    · cases hp
    · exact hp
  · intro op r sla hag hC h8 h9
    have h38' : r 38 = 0 := (hag 38 rfl).trans h38
    intro E w x hx
    obtain ⟨ad, cap, rfl, hcap⟩ := sli_zero hx
    have key : ∀ sla', SlaOK sla' → RetO Try.prog 6 [fZ, instE] [] sla' (iv op [] r) (.bool (Y.getD 0 0 == 1)) := fun sla' hs => hc _ sla' hag holds_nil ⟨tNil, gNil, oCons (hC sla' 0).2 (a_conc rfl) oNil, mCons (me_of (fun w y hy => patE_of hs h38' hy) (by simp only [conc]; rfl) h8) (mCons (me_of (fun w y hy => patE_of hs h38' hy) (by simp only [conc, concs]; rfl) h9) mNil), kNil, xNil⟩ (6, [fZ, instE], [.b 0]) (by simp [L_fits0z])
    have k := key (fun k => if k = 38 then (ad, cap) else sla k) hcap E w (fun k o hk => by simp at hk)
    have e : @concs (nameS (iv op [] r) fun k => if k = 38 then (ad, cap) else sla k) E [fZ, instE] = [@conc (nameS (iv op [] r) sla) E fZ, insV op (.slice ad 0 cap)] := by
      have e1 : @conc (nameS (iv op [] r) fun k => if k = 38 then (ad, cap) else sla k) E fZ = @conc (nameS (iv op [] r) sla) E fZ := by
        simp only [conc, concs]
        rfl
      have e2 : @conc (nameS (iv op [] r) fun k => if k = 38 then (ad, cap) else sla k) E instE = insV op (.slice ad 0 cap) := by
        simp only [conc, concs]
        show Value.agg #[.int .i64 op, .slice ad (r 38).toNat cap] = _
        rw [h38']
        rfl
      show [_, @conc (nameS (iv op [] r) fun k => if k = 38 then (ad, cap) else sla k) E instE] = _
      rw [e2]
      exact congrArg (fun q => [q, insV op (.slice ad 0 cap)]) e1
    rw [e] at k
    exact k

end Go.Proofs.Ytlggmhchgicjkaa.Tab
