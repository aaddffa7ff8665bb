/-
  The law's ways by lengths and kinds, out of what is known of its calls.
-/
import Derived.Test.YtlggmhchgicjkaaFitW
import Derived.Test.YtlggmhchgicjkaaLawD
import Derived.Test.YtlggmhchgicjkaaArgW
namespace Go.Proofs.Ytlggmhchgicjkaa.Tab
open Go.Sim
set_option maxRecDepth 100000

/-- The canon's operands' cells. -/
def ZxOK (n : Nat) (zs zx : List Int) (r : Nat → Int) : Prop := zx.length = 11 * n ∧ ∀ k j, k < n → j < 11 → zx.getD (11 * k + j) 0 = if j = 0 then zs.getD (11 * k) 0 else if j = 10 ∧ zs.getD (11 * k) 0 = 3 then r (40 + 40 * k + 37) else r (40 + 40 * k + 20 + j)

theorem xe_of {op : Int} {zs : List Int} {val : Nat → Int} {sla : Nat → Option Addr × Nat} {p : Pt} {v : Value} {v0 : AV} (hv : v = @conc (nameS val sla) E0 v0) (h : XF 6 val sla op zs v) (hp : ∀ w y, @PtOf (nameS val sla) w p y → ∃ x, y = insV op x ∧ SliV w x zs) : XeQ Try.prog outsF val sla ⟨6, fA, p, v0⟩ := by
  subst hv
  intro E w y hO hy
  obtain ⟨x, rfl, hx⟩ := hp w y hy
  exact h E w x hO hx

theorem patX_of {op : Int} {zs zx : List Int} {r : Nat → Int} {n m : Nat} {sla : Nat → Option Addr × Nat} {l : List AV} (h9 : n ≤ 9) (hl : l = (List.range (11 * n)).map fun i => a (nameX m i)) (hz : ZxOK n zs zx r) (hm : ∀ k, k < n → (Nat.beq (m / 2 ^ k % 2) 1 = true ↔ zs.getD (11 * k) 0 = 3))
    {w : World} {y : Value} (hp : @PtOf (nameS (iv op zs r) sla) w (.ag [.av (a 0), .sl 11 l]) y) : ∃ x, y = insV op x ∧ SliV w x zx := by
  obtain ⟨ws, rfl, y, ys, rfl, h1, ⟨z, zs', rfl, h2, rfl⟩⟩ := hp
  have h1 : y = .int .i64 op := h1
  have h2 : SlOf w 11 z (@concs (nameS (iv op zs r) sla) E0 l) := h2
  have e : @concs (nameS (iv op zs r) sla) E0 l = zx.map (Value.int .i64) := by
    subst hl
    rw [@concs_eq (nameS (iv op zs r) sla), List.map_map]
    apply List.ext_getElem?
    intro i
    rw [List.getElem?_map, List.getElem?_map]
    by_cases hi : i < 11 * n
    · rw [List.getElem?_range hi, List.getElem?_eq_getElem (by rw [hz.1]; exact hi)]
      simp only [Option.map_some, Function.comp_def, conc, SX.eval]
      have e1 : 11 * (i / 11) + i % 11 = i := by omega
      have hk : i / 11 < n := by omega
      have hj : i % 11 < 11 := Nat.mod_lt _ (by omega)
      have e2 := hz.2 (i / 11) (i % 11) hk hj
      rw [e1, List.getD_eq_getElem?_getD, List.getElem?_eq_getElem (by rw [hz.1]; exact hi), Option.getD_some] at e2
      rw [e2]
      show some (Value.int .i64 (iv op zs r (nameX m i))) = _
      unfold nameX
      by_cases j0 : i % 11 = 0
      · rw [j0, if_pos rfl]
        show some (Value.int .i64 (iv op zs r (40 + 40 * (i / 11)))) = _
        have := iv_cell (op := op) (zs := zs) (r := r) (k := i / 11) (j := 0) (by omega) (by omega)
        rw [Nat.add_zero, Nat.add_zero] at this
        rw [this]
      · have b0 : Nat.beq (i % 11) 0 = false := by
          cases c : Nat.beq (i % 11) 0 with
          | false => rfl
          | true => exact absurd (Nat.eq_of_beq_eq_true c) j0
        rw [if_neg j0, b0]
        by_cases jt : i % 11 = 10 ∧ zs.getD (11 * (i / 11)) 0 = 3
        · rw [if_pos jt, jt.1, (hm _ hk).2 jt.2]
          show some (Value.int .i64 (iv op zs r (40 + 40 * (i / 11) + 37))) = _
          rw [iv_r (by omega) (by omega)]
        · rw [if_neg jt]
          have eb : (Nat.beq (i % 11) 10 && Nat.beq (m / 2 ^ (i / 11) % 2) 1) = false := by
            cases c : (Nat.beq (i % 11) 10 && Nat.beq (m / 2 ^ (i / 11) % 2) 1) with
            | false => rfl
            | true =>
              simp only [Bool.and_eq_true] at c
              exact absurd ⟨Nat.eq_of_beq_eq_true c.1, (hm _ hk).1 c.2⟩ jt
          rw [eb]
          show some (Value.int .i64 (iv op zs r (40 + 40 * (i / 11) + 20 + i % 11))) = _
          rw [iv_r (by omega) (by omega)]
    · rw [List.getElem?_eq_none (by simp; omega), List.getElem?_eq_none (by rw [hz.1]; omega)]
      rfl
  rw [e] at h2
  subst h1
  exact ⟨z, rfl, .inr h2⟩

theorem patN_of {op : Int} {zs : List Int} {r : Nat → Int} {sla : Nat → Option Addr × Nat} {w : World} {y : Value} (hp : @PtOf (nameS (iv op zs r) sla) w (.ag [.av (a 0), .av nilS]) y) : ∃ x, y = insV op x ∧ SliV w x [] := by
  obtain ⟨ws, rfl, y, ys, rfl, h1, ⟨z, zs', rfl, h2, rfl⟩⟩ := hp
  have h1 : y = .int .i64 op := h1
  have h2 : z = .slice none 0 0 := h2
  subst h1 h2
  exact ⟨_, rfl, .inl ⟨rfl, .inl rfl⟩⟩

theorem can_ent {op : Int} {zs : List Int} {r : Nat → Int} {c k : Nat} {sla : Nat → Option Addr × Nat} (hk : k < 9) (h : Ret Try.prog 10 [argOf zs k] (.tuple #[argL (fun j => if j = 0 then zs.getD (11 * k) 0 else r (40 + 40 * k + 20 + j)), .int .i64 0])) :
    Ret Try.prog 10 (@concs (nameS (iv op zs (capR r c)) sla) E0 [.agg ((List.range 11).map fun j => a (40 + 40 * k + j))]) (@conc (nameS (iv op zs (capR r c)) sla) E0 (.tup [.agg (a (40 + 40 * k) :: (List.range 10).map fun j => a (40 + 40 * k + 21 + j)), ci 0])) := by
  rw [row_conc hk]
  have e : @conc (nameS (iv op zs (capR r c)) sla) E0 (.tup [.agg (a (40 + 40 * k) :: (List.range 10).map fun j => a (40 + 40 * k + 21 + j)), ci 0]) = .tuple #[argL (fun j => if j = 0 then zs.getD (11 * k) 0 else r (40 + 40 * k + 20 + j)), .int .i64 0] := by
    have e0 : iv op zs (capR r c) (40 + 40 * k) = zs.getD (11 * k) 0 := by
      have := iv_cell (op := op) (zs := zs) (r := capR r c) (k := k) (j := 0) hk (by omega)
      simpa using this
    have e1 : ∀ j, iv op zs (capR r c) (40 + 40 * k + 21 + j) = iv op zs r (40 + 40 * k + 21 + j) := fun j => iv_cap (by omega)
    simp only [conc, concs, SX.eval]
    show Value.tuple #[.agg (.int .i64 (iv op zs (capR r c) (40 + 40 * k)) :: @concs (nameS (iv op zs (capR r c)) sla) E0 ((List.range 10).map fun j => a (40 + 40 * k + 21 + j))).toArray, .int .i64 0] = _
    rw [@concs_eq (nameS (iv op zs (capR r c)) sla), List.map_map, e0]
    have e2 : (List.range 10).map (@conc (nameS (iv op zs (capR r c)) sla) E0 ∘ fun j => a (40 + 40 * k + 21 + j)) = (List.range 10).map fun j => Value.int .i64 (r (40 + 40 * k + 20 + (j + 1))) := by
      apply List.map_congr_left
      intro j hj
      rw [List.mem_range] at hj
      simp only [Function.comp_def, conc, SX.eval]
      show Value.int .i64 (iv op zs (capR r c) (40 + 40 * k + 21 + j)) = _
      rw [e1, iv_r (by omega) (by omega), show 40 + 40 * k + 21 + j = 40 + 40 * k + 20 + (j + 1) by omega]
    rw [e2]
    rfl
  rw [e]
  exact h

theorem imm_ent {op : Int} {zs : List Int} {r : Nat → Int} {c k : Nat} {sla : Nat → Option Addr × Nat} (hk : k < 9) (h : Ret Try.prog 11 [.int .i64 (r (40 + 40 * k + 30)), .int .i64 (r 5), .bool (r 6 == 1)] (.tuple #[.int .i64 (r (40 + 40 * k + 37)), .int .i64 0])) :
    Ret Try.prog 11 (@concs (nameS (iv op zs (capR r c)) sla) E0 [a (40 + 40 * k + 30), a 5, bo 6]) (@conc (nameS (iv op zs (capR r c)) sla) E0 (.tup [a (40 + 40 * k + 37), ci 0])) := by
  simp only [conc, concs, SX.eval, SB.eval]
  show Ret Try.prog 11 [.int .i64 (iv op zs (capR r c) (40 + 40 * k + 30)), .int .i64 (r 5), .bool (r 6 == 1)] (.tuple #[.int .i64 (iv op zs (capR r c) (40 + 40 * k + 37)), .int .i64 0])
  rw [iv_cap (by omega), iv_cap (by omega), iv_r (by omega) (by omega), iv_r (by omega) (by omega)]
  exact h

theorem capR_self {r : Nat → Int} {c : Nat} (h : r 1 = c) : capR r c = r := by
  funext k
  unfold capR
  split
  · rename_i h1; rw [h1, h]
  · rfl

/-- What the law leans on. -/
structure LawH (op : Int) (zs : List Int) (n : Nat) (r : Nat → Int) : Prop where
  len : zs.length = 11 * n
  four : Ret Try.prog 4 [] (.bool true)
  form : ∀ (sla' : Nat → Option Addr × Nat) (c : Nat), RetO Try.prog 7 [fA] outsF sla' (iv op zs (capR r c)) (.int .i64 (r 28)) ∧ RetO Try.prog 7 [fA] outsF sla' (iv op zs r) (.int .i64 (r 28))
  check : RI 8 op zs (.int .i64 (r 7))
  h11 : 0 ≤ r 11 ∧ r 11 ≤ 9
  h13 : 0 ≤ r 13 ∧ r 13 ≤ 9
  h38 : r 38 = 0

structure LawT (op : Int) (zs zx : List Int) (n : Nat) (r : Nat → Int) : Prop where
  bits : RI 9 op zs (.tuple #[.int .i64 (r 5), .bool (r 6 == 1)])
  canon : ∀ k, k < n → Ret Try.prog 10 [argOf zs k] (.tuple #[argL (fun j => if j = 0 then zs.getD (11 * k) 0 else r (40 + 40 * k + 20 + j)), .int .i64 0])
  imm : ∀ k, k < n → zs.getD (11 * k) 0 = 3 → Ret Try.prog 11 [.int .i64 (r (40 + 40 * k + 30)), .int .i64 (r 5), .bool (r 6 == 1)] (.tuple #[.int .i64 (r (40 + 40 * k + 37)), .int .i64 0])
  zx : ZxOK n zs zx r

theorem law_le {op : Int} {zs : List Int} {n : Nat} {r : Nat → Int} (hL : LawH op zs n r) : r 11 ≤ 100 ∧ r 13 ≤ 100 := ⟨by have := hL.h11.2; omega, by have := hL.h13.2; omega⟩

theorem form_ent {op : Int} {zs : List Int} {n : Nat} {r : Nat → Int} (hL : LawH op zs n r) {sla : Nat → Option Addr × Nat} (c : Nat) : TabOKO Try.prog (iv op zs (capR r c)) sla outsF [(7, [fA], a 28)] := oCons (hL.form sla c).1 (a_conc rfl) oNil

theorem four_ent {val : Nat → Int} {sla : Nat → Option Addr × Nat} {l : List (FuncId × List AV × AV)} (h : Ret Try.prog 4 [] (.bool true)) (hl : TabOK Try.prog val sla l) : TabOK Try.prog val sla (lawFo :: l) := tCons h hl

theorem xf_cap {f : FuncId} {op op' : Int} {zs zs' : List Int} {n c : Nat} {r : Nat → Int} {sla : Nat → Option Addr × Nat} {v : Value} (hL : LawH op zs n r) (h : XF f (iv op zs r) sla op' zs' v) : XF f (iv op zs (capR r c)) sla op' zs' v :=
  xf_congr (fun k hk => (dn0_ne1 k hk).symm) rfl rfl (show r 11 ≤ 100 ∧ r 13 ≤ 100 from law_le hL) h

theorem xf_sla {f : FuncId} {op op' : Int} {zs zs' : List Int} {n : Nat} {r : Nat → Int} {sla sla' : Nat → Option Addr × Nat} {v : Value} (hL : LawH op zs n r) (s0 : sla 0 = sla' 0) (s1 : sla 1 = sla' 1) (h : XF f (iv op zs r) sla op' zs' v) : XF f (iv op zs r) sla' op' zs' v :=
  xf_congr (fun _ _ => rfl) s0 s1 (show r 11 ≤ 100 ∧ r 13 ≤ 100 from law_le hL) h

theorem lens_ok {op : Int} {zs : List Int} {n c : Nat} {r : Nat → Int} (hL : LawH op zs n r) (hc : n ≤ c) (f : Fact) (hf : f ∈ [.ge (.a 11) 0, .le (.a 11) 9, .ge (.a 13) 0, .le (.a 13) 9, .ge (.a 1) (n : Int)]) : f.holds (iv op zs (capR r c)) := by
  simp only [List.mem_cons, List.not_mem_nil, or_false] at hf
  rcases hf with rfl | rfl | rfl | rfl | rfl
  · exact hL.h11.1
  · exact hL.h11.2
  · exact hL.h13.1
  · exact hL.h13.2
  · exact hcap hc _ (List.mem_singleton_self _)

theorem law_e (n : Nat) (h9 : n ≤ 9) {op : Int} {zs : List Int} {r : Nat → Int} {sla : Nat → Option Addr × Nat} (hL : LawH op zs n r) (h7 : r 7 ≠ 0) (hx : XF 6 (iv op zs r) sla op zs (.bool false)) : XF 3 (iv op zs r) sla op zs (.bool true) := by
  have hl := hL.len
  by_cases h0 : n = 0
  · subst h0
    obtain rfl : zs = [] := List.eq_nil_of_length_eq_zero hl
    refine riF0 (f := 3) (law_le hL) hL.h38 fun sla' s0 s1 hs => ?_
    exact lawe0 (iv op [] r) (fun f hf => by
      simp only [List.mem_cons, List.not_mem_nil, or_false] at hf
      rcases hf with rfl | rfl | rfl | rfl | rfl | rfl
      · exact h7
      · exact hL.h11.1
      · exact hL.h11.2
      · exact hL.h13.1
      · exact hL.h13.2
      · exact hL.h38) sla' ⟨four_ent hL.four tNil, gNil, oCons (hL.form sla' 0).2 (a_conc rfl) oNil, mCons (me_of (fun w y hy => patE_of hs hL.h38 hy) (by simp only [conc]; rfl) hL.check) mNil, kNil,
        xCons (xe_of (by simp only [conc]) (xf_sla hL s0 s1 hx) (fun w y hy => patE_of hs hL.h38 hy)) xNil⟩
  · refine riF (f := 3) (r := r) (by omega) h9 hl (law_le hL) fun c hcn => ?_
    exact law_err n ⟨by omega, h9⟩ (iv op zs (capR r c)) (fun f hf => by
      rcases List.mem_cons.1 hf with rfl | hf
      · exact h7
      · exact lens_ok hL hcn f hf) sla ⟨four_ent hL.four tNil, gNil, form_ent hL c, mCons (me_of (fun w y hy => pat_of h9 hl hy) (by simp only [conc]; rfl) hL.check) mNil, kNil,
        xCons (xe_of (by simp only [conc]) (xf_cap hL hx) (fun w y hy => pat_of h9 hl hy)) xNil⟩

theorem lawE_ok {n m : Nat} (h4 : n ≤ 4) {op : Int} {zs zx : List Int} {r : Nat → Int} {c : Nat} {sla : Nat → Option Addr × Nat} (hT : LawT op zs zx n r) (hm : ∀ k, k < n → (Nat.beq (m / 2 ^ k % 2) 1 = true ↔ zs.getD (11 * k) 0 = 3)) : TabOK Try.prog (iv op zs (capR r c)) sla (lawE n m) := by
  intro x hx
  obtain ⟨k, hk, hx⟩ := List.mem_flatMap.1 hx
  rw [List.mem_range] at hk
  rcases List.mem_cons.1 hx with rfl | hx
  · exact can_ent (by omega) (hT.canon k hk)
  · cases e : Nat.beq (m / 2 ^ k % 2) 1 with
    | true =>
      rw [e] at hx
      obtain rfl := List.mem_singleton.1 hx
      exact imm_ent (by omega) (hT.imm k hk ((hm k hk).1 e))
    | false =>
      rw [e] at hx
      cases hx

theorem mask_of (n : Nat) (h4 : n ≤ 4) (zs : List Int) : ∃ m, m < 2 ^ n ∧ ∀ k, k < n → (Nat.beq (m / 2 ^ k % 2) 1 = true ↔ zs.getD (11 * k) 0 = 3) := by
  have hb : ∀ k : Nat, ∃ b : Nat, b ≤ 1 ∧ (b = 1 ↔ zs.getD (11 * k) 0 = 3) := fun k => by
    by_cases h : zs.getD (11 * k) 0 = 3
    · exact ⟨1, by omega, fun _ => h, fun _ => rfl⟩
    · exact ⟨0, by omega, fun e => by omega, fun e => absurd e h⟩
  have hq : ∀ (k x b : Nat), x = b → (b = 1 ↔ zs.getD (11 * k) 0 = 3) → (Nat.beq x 1 = true ↔ zs.getD (11 * k) 0 = 3) := fun k x b e h => ⟨fun q => h.1 (by rw [← e]; exact Nat.eq_of_beq_eq_true q), fun q => by rw [e, h.2 q]; rfl⟩
  obtain ⟨b0, l0, q0⟩ := hb 0
  obtain ⟨b1, l1, q1⟩ := hb 1
  obtain ⟨b2, l2, q2⟩ := hb 2
  obtain ⟨b3, l3, q3⟩ := hb 3
  match n, h4 with
  | 0, _ => exact ⟨0, by decide, fun k hk => by omega⟩
  | 1, _ => exact ⟨b0, by omega, fun k hk => match k, hk with | 0, _ => hq 0 _ b0 (by omega) q0⟩
  | 2, _ => exact ⟨b0 + 2 * b1, by omega, fun k hk => match k, hk with | 0, _ => hq 0 _ b0 (by omega) q0 | 1, _ => hq 1 _ b1 (by omega) q1⟩
  | 3, _ => exact ⟨b0 + 2 * b1 + 4 * b2, by omega, fun k hk => match k, hk with | 0, _ => hq 0 _ b0 (by omega) q0 | 1, _ => hq 1 _ b1 (by omega) q1 | 2, _ => hq 2 _ b2 (by omega) q2⟩
  | 4, _ => exact ⟨b0 + 2 * b1 + 4 * b2 + 8 * b3, by omega, fun k hk => match k, hk with | 0, _ => hq 0 _ b0 (by omega) q0 | 1, _ => hq 1 _ b1 (by omega) q1 | 2, _ => hq 2 _ b2 (by omega) q2 | 3, _ => hq 3 _ b3 (by omega) q3⟩
  | n + 5, h => omega

theorem law_n (n : Nat) (h4 : n ≤ 4) (t : Bool) {op : Int} {zs zx : List Int} {r : Nat → Int} {sla : Nat → Option Addr × Nat} (hL : LawH op zs n r) (hT : LawT op zs zx n r) (h7 : r 7 = 0) (ht : t = true → r 28 = 0 ∧ r 20 = op ∧ r 11 = n) (hx : XF 6 (iv op zs r) sla op zs (.bool t)) (hy : XF 6 (iv op zs r) sla op zx (.bool t)) :
    XF 3 (iv op zs r) sla op zs (.bool true) := by
  have hl := hL.len
  have hzx := hT.zx
  by_cases h0 : n = 0
  · subst h0
    obtain rfl : zs = [] := List.eq_nil_of_length_eq_zero hl
    obtain rfl : zx = [] := List.eq_nil_of_length_eq_zero hzx.1
    refine riF0 (f := 3) (law_le hL) hL.h38 fun sla' s0 s1 hs => ?_
    have hx := xf_sla hL s0 s1 hx
    have hy := xf_sla hL s0 s1 hy
    cases t with
    | true =>
      obtain ⟨h28, h20, h11⟩ := ht rfl
      exact lawt0 (iv op [] r) (fun f hf => by
        simp only [List.mem_cons, List.not_mem_nil, or_false] at hf
        rcases hf with rfl | rfl | rfl | rfl | rfl | rfl | rfl | rfl | rfl
        · exact h28
        · simp only [Fact.holds, SB.eval, SX.eval, beq_iff_eq]; exact h20
        · exact h11
        · exact h7
        · exact hL.h11.1
        · exact hL.h11.2
        · exact hL.h13.1
        · exact hL.h13.2
        · exact hL.h38) sla' ⟨four_ent hL.four tNil, gNil, oCons (hL.form sla' 0).2 (a_conc rfl) oNil, mCons (me_of (fun w y hy => patE_of hs hL.h38 hy) (by simp only [conc]; rfl) hL.check) (mCons (me_of (fun w y hy => patE_of hs hL.h38 hy) (by simp only [conc, concs]; rfl) hT.bits) mNil), kNil,
          xCons (xe_of (by simp only [conc]) hx (fun w y hy => patE_of hs hL.h38 hy)) (xCons (xe_of (by simp only [conc]) hy (fun w y hy => patN_of hy)) xNil)⟩
    | false =>
      exact lawf0 (iv op [] r) (fun f hf => by
        simp only [List.mem_cons, List.not_mem_nil, or_false] at hf
        rcases hf with rfl | rfl | rfl | rfl | rfl | rfl
        · exact h7
        · exact hL.h11.1
        · exact hL.h11.2
        · exact hL.h13.1
        · exact hL.h13.2
        · exact hL.h38) sla' ⟨four_ent hL.four tNil, gNil, oCons (hL.form sla' 0).2 (a_conc rfl) oNil, mCons (me_of (fun w y hy => patE_of hs hL.h38 hy) (by simp only [conc]; rfl) hL.check) (mCons (me_of (fun w y hy => patE_of hs hL.h38 hy) (by simp only [conc, concs]; rfl) hT.bits) mNil), kNil,
          xCons (xe_of (by simp only [conc]) hx (fun w y hy => patE_of hs hL.h38 hy)) (xCons (xe_of (by simp only [conc]) hy (fun w y hy => patN_of hy)) xNil)⟩
  · obtain ⟨m, hm2, hm⟩ := mask_of n h4 zs
    refine riF (f := 3) (r := r) (by omega) (by omega) hl (law_le hL) fun c hcn => ?_
    have hzx : ZxOK n zs zx (capR r c) := ⟨hzx.1, fun k j hk hj => by
      have := hzx.2 k j hk hj
      have e1 : capR r c (40 + 40 * k + 37) = r (40 + 40 * k + 37) := if_neg (by omega)
      have e2 : capR r c (40 + 40 * k + 20 + j) = r (40 + 40 * k + 20 + j) := if_neg (by omega)
      rw [e1, e2]
      exact this⟩
    have hF : Holds (iv op zs (capR r c)) (lawFt n m t) := by
      intro f hf
      unfold lawFt at hf
      rcases List.mem_append.1 hf with hf | hf
      · rcases List.mem_append.1 hf with hf | hf
        · cases t with
          | false => cases hf
          | true =>
            obtain ⟨h28, h20, h11⟩ := ht rfl
            have hf : f ∈ [Fact.is (.a 28) 0, .at (.eq (.a 20) (.a 0)) true, .is (.a 11) n] := hf
            simp only [List.mem_cons, List.not_mem_nil, or_false] at hf
            rcases hf with rfl | rfl | rfl
            · exact h28
            · simp only [Fact.holds, SB.eval, SX.eval, beq_iff_eq]; exact h20
            · exact h11
        · rcases List.mem_cons.1 hf with rfl | hf
          · exact h7
          · exact lens_ok hL hcn f hf
      · obtain ⟨k, hk, rfl⟩ := List.mem_map.1 hf
        rw [List.mem_range] at hk
        have e := iv_cell (op := op) (zs := zs) (r := capR r c) (k := k) (j := 0) (by omega) (by omega)
        rw [Nat.add_zero, Nat.add_zero] at e
        cases q : Nat.beq (m / 2 ^ k % 2) 1 with
        | true => show iv op zs (capR r c) (40 + 40 * k) = 3; rw [e]; exact (hm k hk).1 q
        | false => show iv op zs (capR r c) (40 + 40 * k) ≠ 3; rw [e]; exact fun h => by rw [(hm k hk).2 h] at q; cases q
    exact law_some n ⟨by omega, h4⟩ m hm2 t (iv op zs (capR r c)) hF sla ⟨four_ent hL.four (lawE_ok h4 hT hm), gNil, form_ent hL c,
      mCons (me_of (fun w y hy => pat_of (by omega) hl hy) (by simp only [conc]; rfl) hL.check) (mCons (me_of (fun w y hy => pat_of (by omega) hl hy) (by simp only [conc, concs]; rfl) hT.bits) mNil), kNil,
      xCons (xe_of (by simp only [conc]) (xf_cap hL hx) (fun w y hy => pat_of (by omega) hl hy)) (xCons (xe_of (by simp only [conc]) (xf_cap hL hy) (fun w y hy => patX_of (m := m) (by omega) rfl hzx hm hy)) xNil)⟩

end Go.Proofs.Ytlggmhchgicjkaa.Tab
