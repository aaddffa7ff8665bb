/-
  What shape.Check gives of any form; what the functions that tell what fits a shape give of any operand.
-/
import Derived.Test.YtlggmhchgicjkaaShpD
import Derived.Test.YtlggmhchgicjkaaInsD
import Derived.Test.YtlggmhchgicjkaaTbW
namespace Go.Proofs.Ytlggmhchgicjkaa.Tab
open Go.Sim
set_option maxRecDepth 100000

/-- A form: its mnemonic, shapes, slots, how far these slices reach, its numbers. -/
structure Fm where
  op : Int
  zs : List Int
  ts : List Int
  cS : Int
  cT : Int
  pre : Int
  map : Int
  code : Int
  dig : Int
  wi : Int
  vex : Int
  le : Int

def Fm.low (d : Fm) : Nat → Int
  | 11 => d.zs.length
  | 12 => d.cS
  | 13 => d.ts.length
  | 14 => d.cT
  | 20 => d.op
  | 21 => d.pre
  | 22 => d.map
  | 23 => d.code
  | 24 => d.dig
  | 25 => d.wi
  | 26 => d.vex
  | 27 => d.le
  | _ => 0

/-- What the names stand for. -/
def Fm.val (d : Fm) (r : Nat → Int) : Nat → Int := fun k => if 600 ≤ k then r k else if 500 ≤ k then d.ts.getD (k - 500) 0 else if 400 ≤ k then d.zs.getD (k - 400) 0 else d.low k

theorem fm_low (d : Fm) (r : Nat → Int) {k : Nat} (h : k < 400) : d.val r k = d.low k := by
  unfold Fm.val
  rw [if_neg (by omega), if_neg (by omega), if_neg (by omega)]

theorem fm_r (d : Fm) (r : Nat → Int) {k : Nat} (h : 600 ≤ k) : d.val r k = r k := by
  unfold Fm.val
  rw [if_pos h]

theorem fm_z (d : Fm) (r : Nat → Int) {k : Nat} (h : k < 100) : d.val r (400 + k) = d.zs.getD k 0 := by
  unfold Fm.val
  rw [if_neg (by omega), if_neg (by omega), if_pos (by omega), Nat.add_sub_cancel_left]

theorem fm_t (d : Fm) (r : Nat → Int) {k : Nat} (h : k < 100) : d.val r (500 + k) = d.ts.getD k 0 := by
  unfold Fm.val
  rw [if_neg (by omega), if_pos (by omega), Nat.add_sub_cancel_left]

theorem dn0_lt {k : Nat} (h : dn0 k = true) : k < 600 := by
  unfold dn0 at h
  simp only [Bool.or_eq_true, Bool.and_eq_true] at h
  rcases h with ⟨_, h⟩ | ⟨_, h⟩
  · have := Nat.le_of_ble_eq_true h; omega
  · have := Nat.le_of_ble_eq_true h; omega

theorem agFm (d : Fm) {r r' : Nat → Int} {dn : Nat → Bool} (h : ∀ k, dn k = true → 600 ≤ k → r' k = r k) : Ag dn (d.val r) (d.val r') := by
  intro k hk
  by_cases h6 : 600 ≤ k
  · rw [fm_r d _ h6, fm_r d _ h6, h k hk h6]
  · unfold Fm.val
    rw [if_neg h6, if_neg h6]

theorem dn0_F {k : Nat} (h : dn0 k = true) : dnF k = true := by
  unfold dn0 at h
  unfold dnF
  simp only [Bool.or_eq_true, Bool.and_eq_true] at h ⊢
  rcases h with h | ⟨h, _⟩
  · exact .inl h
  · exact .inr h

theorem dnM_F {k : Nat} (h : dnM k = true) : dnF k = true := by
  unfold dnM at h
  simp only [Bool.or_eq_true, Bool.and_eq_true] at h
  rcases h with h | ⟨h, _⟩
  · exact dn0_F h
  · have := Nat.le_of_ble_eq_true h
    unfold dnF
    simp only [Bool.or_eq_true, Bool.and_eq_true]
    exact .inr (Nat.ble_eq_true_of_le (by omega))

theorem dnP_F {k : Nat} (h : dnP k = true) : dnF k = true := by
  unfold dnP at h
  simp only [Bool.or_eq_true] at h
  rcases h with (h | h) | h
  · exact dn0_F h
  · obtain rfl := Nat.eq_of_beq_eq_true h; rfl
  · obtain rfl := Nat.eq_of_beq_eq_true h; rfl

/-! The parts. -/

theorem ret_valid (op : Int) : ∃ b : Int, Ret Try.prog 18 [.int .i64 op] (.bool (b == 1)) := by
  obtain ⟨Y, _, _, h3⟩ := name (fun _ => op)
  have k : Ret Try.prog 18 (@concs (nameS (fun _ => op) sl0) E0 [a 0]) (shV [.b 0] Y) := ret_out (h3 (fun _ => op) sl0 agR holds_nil tb0 (18, [a 0], [.b 0]) (by simp [L_name]))
  have e : @concs (nameS (fun _ => op) sl0) E0 [a 0] = [.int .i64 op] := by simp only [concs, conc]; rfl
  rw [e] at k
  exact ⟨Y.getD 0 0, k⟩

theorem ret_taken (c : Int) : ∃ b : Int, Ret Try.prog 64 [.int .i64 c] (.bool (b == 1)) := by
  obtain ⟨Y, _, _, h3⟩ := taken (fun _ => c)
  have k : Ret Try.prog 64 (@concs (nameS (fun _ => c) sl0) E0 [a 0]) (shV [.b 0] Y) := ret_out (h3 (fun _ => c) sl0 agR holds_nil tb0 (64, [a 0], [.b 0]) (by simp [L_taken]))
  have e : @concs (nameS (fun _ => c) sl0) E0 [a 0] = [.int .i64 c] := by simp only [concs, conc]; rfl
  rw [e] at k
  exact ⟨Y.getD 0 0, k⟩

theorem ret_goes (z s : Int) : ∃ g : Int, (g = 1 → 1 ≤ z ∧ z ≤ 34) ∧ Ret Try.prog 69 [.int .i64 z, .int .i64 s] (.bool (g == 1)) := by
  obtain ⟨Y, _, h2, h3⟩ := goes (fun k => if k = 0 then z else s)
  have k : Ret Try.prog 69 (@concs (nameS (fun k => if k = 0 then z else s) sl0) E0 [a 0, a 1]) (shV [.b 0] Y) := ret_out (h3 (fun k => if k = 0 then z else s) sl0 agR holds_nil tb0 (69, [a 0, a 1], [.b 0]) (by simp [L_goes]))
  have e : @concs (nameS (fun k => if k = 0 then z else s) sl0) E0 [a 0, a 1] = [.int .i64 z, .int .i64 s] := by simp only [concs, conc]; rfl
  rw [e] at k
  refine ⟨Y.getD 0 0, fun hg => ?_, k⟩
  unfold RofP at h2
  simp only [P_goes, SB.eval, SX.eval, getD_c, hg, if_true, Bool.or_eq_true, Bool.not_eq_true', beq_self_eq_true, Bool.and_eq_true, decide_eq_true_eq] at h2
  rcases h2 with h2 | h2
  · cases h2
  · exact h2

/-- What Slot gives of this form. -/
def SlotR (d : Fm) (v s : Int) : Prop := ∀ val sla, Ag dn0 (d.val fun _ => 0) val → RetO Try.prog 13 [fA, ci v] outsF sla val (.int .i64 s)

theorem holds4 {d : Fm} {r : Nat → Int} (hS : (d.zs.length : Int) ≤ d.cS) (hT : (d.ts.length : Int) ≤ d.cT) (h4 : d.ts.length ≤ 4) :
    Holds (d.val r) [.ge (.a 11) 0, .ge (.a 13) 0, .at (.le (.a 11) (.a 12)) true, .at (.le (.a 13) (.a 14)) true, .le (.a 13) 4] := by
  intro f hf
  simp only [List.mem_cons, List.not_mem_nil, or_false] at hf
  rcases hf with rfl | rfl | rfl | rfl | rfl
  · show (0 : Int) ≤ d.zs.length; omega
  · show (0 : Int) ≤ d.ts.length; omega
  · exact decide_eq_true hS
  · exact decide_eq_true hT
  · show (d.ts.length : Int) ≤ 4; omega

theorem holds44 {d : Fm} {r : Nat → Int} (hS : (d.zs.length : Int) ≤ d.cS) (hT : (d.ts.length : Int) ≤ d.cT) (h4 : d.zs.length ≤ 4) (h4' : d.ts.length ≤ 4) :
    Holds (d.val r) [.ge (.a 11) 0, .ge (.a 13) 0, .at (.le (.a 11) (.a 12)) true, .at (.le (.a 13) (.a 14)) true, .le (.a 11) 4, .le (.a 13) 4] := by
  intro f hf
  simp only [List.mem_cons, List.not_mem_nil, or_false] at hf
  rcases hf with rfl | rfl | rfl | rfl | rfl | rfl
  · show (0 : Int) ≤ d.zs.length; omega
  · show (0 : Int) ≤ d.ts.length; omega
  · exact decide_eq_true hS
  · exact decide_eq_true hT
  · show (d.zs.length : Int) ≤ 4; omega
  · show (d.ts.length : Int) ≤ 4; omega

section
variable {d : Fm} (hS : (d.zs.length : Int) ≤ d.cS) (hT : (d.ts.length : Int) ≤ d.cT) (h4 : d.ts.length ≤ 4)
include hS hT h4

theorem slot1R : ∃ s, SlotR d 1 s := by
  obtain ⟨Y, _, _, h3⟩ := slot1 _ (holds4 (r := fun _ => 0) hS hT h4)
  exact ⟨_, fun val sla hag => h3 val sla hag holds_nil tb0 (13, [fA, ci 1], [.i 0]) (by simp [L_slot1])⟩

theorem slot2R : ∃ s, SlotR d 2 s := by
  obtain ⟨Y, _, _, h3⟩ := slot2 _ (holds4 (r := fun _ => 0) hS hT h4)
  exact ⟨_, fun val sla hag => h3 val sla hag holds_nil tb0 (13, [fA, ci 2], [.i 0]) (by simp [L_slot2])⟩

theorem slot3R : ∃ s, SlotR d 3 s := by
  obtain ⟨Y, _, _, h3⟩ := slot3 _ (holds4 (r := fun _ => 0) hS hT h4)
  exact ⟨_, fun val sla hag => h3 val sla hag holds_nil tb0 (13, [fA, ci 3], [.i 0]) (by simp [L_slot3])⟩

theorem slot4R : ∃ s, SlotR d 4 s := by
  obtain ⟨Y, _, _, h3⟩ := slot4 _ (holds4 (r := fun _ => 0) hS hT h4)
  exact ⟨_, fun val sla hag => h3 val sla hag holds_nil tb0 (13, [fA, ci 4], [.i 0]) (by simp [L_slot4])⟩

theorem slot7R : ∃ s, SlotR d 7 s := by
  obtain ⟨Y, _, _, h3⟩ := slot7 _ (holds4 (r := fun _ => 0) hS hT h4)
  exact ⟨_, fun val sla hag => h3 val sla hag holds_nil tb0 (13, [fA, ci 7], [.i 0]) (by simp [L_slot7])⟩

omit hS in
theorem onceR : ∃ s : Int, ∀ val sla, Ag dn0 (d.val fun _ => 0) val → RetO Try.prog 62 [slR] outsF sla val (.bool (s == 1)) := by
  have hh : ∀ n : Nat, d.ts.length = n → Holds (d.val fun _ => 0) [.is (.a 13) n, .ge (.a 14) n] := by
    intro n hn f hf
    simp only [List.mem_cons, List.not_mem_nil, or_false] at hf
    rcases hf with rfl | rfl
    · show (d.ts.length : Int) = n; omega
    · show (n : Int) ≤ d.cT; omega
  rcases (by omega : d.ts.length = 0 ∨ d.ts.length = 1 ∨ d.ts.length = 2 ∨ d.ts.length = 3 ∨ d.ts.length = 4) with h | h | h | h | h
  · obtain ⟨Y, _, _, h3⟩ := once0 _ (hh 0 h)
    exact ⟨_, fun val sla hag => h3 val sla hag holds_nil tb0 (62, [slR], [.b 0]) (by simp [L_once0])⟩
  · obtain ⟨Y, _, _, h3⟩ := once1 _ (hh 1 h)
    exact ⟨_, fun val sla hag => h3 val sla hag holds_nil tb0 (62, [slR], [.b 0]) (by simp [L_once1])⟩
  · obtain ⟨Y, _, _, h3⟩ := once2 _ (hh 2 h)
    exact ⟨_, fun val sla hag => h3 val sla hag holds_nil tb0 (62, [slR], [.b 0]) (by simp [L_once2])⟩
  · obtain ⟨Y, _, _, h3⟩ := once3 _ (hh 3 h)
    exact ⟨_, fun val sla hag => h3 val sla hag holds_nil tb0 (62, [slR], [.b 0]) (by simp [L_once3])⟩
  · obtain ⟨Y, _, _, h3⟩ := once4 _ (hh 4 h)
    exact ⟨_, fun val sla hag => h3 val sla hag holds_nil tb0 (62, [slR], [.b 0]) (by simp [L_once4])⟩

end

/-- Of a bool that bears a name. -/
theorem bo_conc {val : Nat → Int} {sla : Nat → Option Addr × Nat} {k : Nat} {b : Int} (h : val k = b) : Value.bool (b == 1) = @conc (nameS val sla) E0 (bo k) := by
  subst h
  simp only [conc, SB.eval, SX.eval]
  rfl

theorem a_conc {val : Nat → Int} {sla : Nat → Option Addr × Nat} {k : Nat} {b : Int} (h : val k = b) : Value.int .i64 b = @conc (nameS val sla) E0 (a k) := by
  subst h
  simp only [conc, SX.eval]
  rfl

/-- What Check gives of a form of this kind. -/
def CheckR (d : Fm) (r : Nat → Int) (cf : Int) : Prop := ∀ val sla, Ag dnF (d.val r) val → RetO Try.prog 7 [fA] outsF sla val (.int .i64 cf)

theorem form_check (d : Fm) (hS : (d.zs.length : Int) ≤ d.cS) (hT : (d.ts.length : Int) ≤ d.cT) :
    ∃ (cf : Int) (r : Nat → Int), (cf = 0 → d.zs.length ≤ 4 ∧ ∀ k, k < d.zs.length → 1 ≤ d.zs.getD k 0 ∧ d.zs.getD k 0 ≤ 34) ∧ CheckR d r cf := by
  obtain ⟨v, hv⟩ := ret_valid d.op
  by_cases h4 : d.zs.length ≤ 4 ∧ d.ts.length ≤ 4
  · obtain ⟨h4, h4'⟩ := h4
    obtain ⟨tk, htk⟩ := ret_taken d.code
    obtain ⟨g0, e0, q0⟩ := ret_goes (d.zs.getD 0 0) (d.ts.getD 0 0)
    obtain ⟨g1, e1, q1⟩ := ret_goes (d.zs.getD 1 0) (d.ts.getD 1 0)
    obtain ⟨g2, e2, q2⟩ := ret_goes (d.zs.getD 2 0) (d.ts.getD 2 0)
    obtain ⟨g3, e3, q3⟩ := ret_goes (d.zs.getD 3 0) (d.ts.getD 3 0)
    obtain ⟨s1, k1⟩ := slot1R hS hT h4'
    obtain ⟨s2, k2⟩ := slot2R hS hT h4'
    obtain ⟨s3, k3⟩ := slot3R hS hT h4'
    obtain ⟨s4, k4⟩ := slot4R hS hT h4'
    obtain ⟨s7, k7⟩ := slot7R hS hT h4'
    obtain ⟨on, hon⟩ := onceR hT h4'
    let rM : Nat → Int := fun k => if k = 620 then g0 else if k = 621 then g1 else if k = 622 then g2 else if k = 623 then g3 else 0
    let rP : Nat → Int := fun k => if k = 603 then s3 else if k = 607 then s7 else 0
    obtain ⟨YM, _, hM, hM3⟩ := matched _ (holds44 (r := rM) hS hT h4 h4')
    obtain ⟨YP, _, _, hP3⟩ := prefixed (d.val rP) (fun f hf => holds44 (r := rP) hS hT h4 h4' f (by
      simp only [List.mem_cons, List.not_mem_nil, or_false] at hf ⊢
      rcases hf with h | h | h | h <;> simp [h]))
    let r : Nat → Int := fun k => if k = 620 then g0 else if k = 621 then g1 else if k = 622 then g2 else if k = 623 then g3 else if k = 603 then s3 else if k = 607 then s7 else if k = 601 then s1 else if k = 602 then s2 else if k = 604 then s4 else
      if k = 610 then YP.getD 0 0 else if k = 611 then on else if k = 612 then YM.getD 0 0 else if k = 613 then tk else if k = 614 then v else 0
    obtain ⟨Y, _, hC, hC3⟩ := check _ (holds44 (r := r) hS hT h4 h4')
    have ag0 : Ag dn0 (d.val fun _ => 0) (d.val r) := agFm d fun k hk h6 => by have := dn0_lt hk; omega
    have agM : Ag dnM (d.val rM) (d.val r) := agFm d fun k hk h6 => by
      unfold dnM at hk
      simp only [Bool.or_eq_true, Bool.and_eq_true] at hk
      rcases hk with hk | ⟨ha, hb⟩
      · have := dn0_lt hk; omega
      · have ha := Nat.le_of_ble_eq_true ha
        have hb := Nat.le_of_ble_eq_true hb
        rcases (by omega : k = 620 ∨ k = 621 ∨ k = 622 ∨ k = 623) with rfl | rfl | rfl | rfl <;> rfl
    have agP : Ag dnP (d.val rP) (d.val r) := agFm d fun k hk h6 => by
      unfold dnP at hk
      simp only [Bool.or_eq_true] at hk
      rcases hk with (hk | hk) | hk
      · have := dn0_lt hk; omega
      · obtain rfl := Nat.eq_of_beq_eq_true hk; rfl
      · obtain rfl := Nat.eq_of_beq_eq_true hk; rfl
    refine ⟨Y.getD 0 0, r, fun h0 => ?_, fun val sla hag => ?_⟩
    · refine ⟨h4, ?_⟩
      unfold RofP at hC hM
      have hc : r 612 = 1 := by
        simp only [P_check, SB.eval, SX.eval, getD_c, h0, Bool.or_eq_true, Bool.not_eq_true', beq_iff_eq, beq_self_eq_true] at hC
        rcases hC with hC | hC
        · cases hC
        · exact hC
      have hm : YM.getD 0 0 = 1 := hc
      simp only [P_matched, SB.eval, SX.eval, getD_c, hm, Bool.or_eq_true, Bool.not_eq_true', beq_iff_eq, beq_self_eq_true, Bool.and_eq_true] at hM
      rcases hM with hM | ⟨hl, m0, m1, m2, m3, _⟩
      · cases hM
      · have hl : (d.zs.length : Int) = d.ts.length := hl
        have m0 : (d.ts.length : Int) ≤ 0 ∨ g0 = 1 := m0.imp of_decide_eq_true id
        have m1 : (d.ts.length : Int) ≤ 1 ∨ g1 = 1 := m1.imp of_decide_eq_true id
        have m2 : (d.ts.length : Int) ≤ 2 ∨ g2 = 1 := m2.imp of_decide_eq_true id
        have m3 : (d.ts.length : Int) ≤ 3 ∨ g3 = 1 := m3.imp of_decide_eq_true id
        intro k hk
        rcases (by omega : k = 0 ∨ k = 1 ∨ k = 2 ∨ k = 3) with rfl | rfl | rfl | rfl
        · exact e0 (m0.resolve_left (by omega))
        · exact e1 (m1.resolve_left (by omega))
        · exact e2 (m2.resolve_left (by omega))
        · exact e3 (m3.resolve_left (by omega))
    · have hv0 : Ag dn0 (d.val fun _ => 0) val := agT ag0 (agS hag fun _ => dn0_F)
      have hvM : Ag dnM (d.val rM) val := agT agM (agS hag fun _ => dnM_F)
      have hvP : Ag dnP (d.val rP) val := agT agP (agS hag fun _ => dnP_F)
      have n20 : val 20 = d.op := hag 20 rfl
      have n23 : val 23 = d.code := hag 23 rfl
      have tM : TbOK Try.prog val sla T_matched := ⟨by
        have z : ∀ k, k < 4 → val (400 + k) = d.zs.getD k 0 := fun k hk => (hag (400 + k) (by
          unfold dnF
          simp only [Bool.or_eq_true]
          exact .inr (Nat.ble_eq_true_of_le (by omega)))).trans (fm_z d r (by omega))
        have t : ∀ k, k < 4 → val (500 + k) = d.ts.getD k 0 := fun k hk => (hag (500 + k) (by
          unfold dnF
          simp only [Bool.or_eq_true]
          exact .inr (Nat.ble_eq_true_of_le (by omega)))).trans (fm_t d r (by omega))
        have key : ∀ (k : Nat) (g : Int), k < 4 → val (620 + k) = g → Ret Try.prog 69 [.int .i64 (d.zs.getD k 0), .int .i64 (d.ts.getD k 0)] (.bool (g == 1)) → Ret Try.prog 69 (@concs (nameS val sla) E0 [a (400 + k), a (500 + k)]) (@conc (nameS val sla) E0 (bo (620 + k))) := by
          intro k g hk hg hr
          rw [← bo_conc hg]
          show Ret Try.prog 69 (@concs (nameS val sla) E0 [a (400 + k), a (500 + k)]) _
          simp only [concs, conc, SX.eval]
          show Ret Try.prog 69 [.int .i64 (val (400 + k)), .int .i64 (val (500 + k))] _
          rw [z k hk, t k hk]
          exact hr
        exact tCons (key 0 g0 (by omega) (hag 620 rfl) q0) (tCons (key 1 g1 (by omega) (hag 621 rfl) q1) (tCons (key 2 g2 (by omega) (hag 622 rfl) q2) (tCons (key 3 g3 (by omega) (hag 623 rfl) q3) tNil))), gNil, oNil, mNil, kNil, xNil⟩
      have tP : TbOK Try.prog val sla T_prefixed := ⟨tNil, gNil, oCons (k3 val sla hv0) (a_conc (hag 603 rfl)) (oCons (k7 val sla hv0) (a_conc (hag 607 rfl)) oNil), mNil, kNil, xNil⟩
      have tC : TbOK Try.prog val sla T_check := ⟨tCons (by
          rw [← bo_conc (hag 614 rfl : val 614 = v)]
          simp only [concs, conc, SX.eval]
          show Ret Try.prog 18 [.int .i64 (val 20)] _
          rw [n20]
          exact hv) (tCons (by
          rw [← bo_conc (hag 613 rfl : val 613 = tk)]
          simp only [concs, conc, SX.eval]
          show Ret Try.prog 64 [.int .i64 (val 23)] _
          rw [n23]
          exact htk) tNil), gNil,
        oCons (hP3 val sla hvP holds_nil tP (61, [fA], [.b 0]) (by simp [L_prefixed])) (bo_conc (hag 610 rfl)) (oCons (hon val sla hv0) (bo_conc (hag 611 rfl))
          (oCons (hM3 val sla hvM holds_nil tM (63, [fA], [.b 0]) (by simp [L_matched])) (bo_conc (hag 612 rfl))
          (oCons (k1 val sla hv0) (a_conc (hag 601 rfl)) (oCons (k2 val sla hv0) (a_conc (hag 602 rfl)) (oCons (k4 val sla hv0) (a_conc (hag 604 rfl)) oNil))))), mNil, kNil, xNil⟩
      exact hC3 val sla hag holds_nil tC (7, [fA], [.i 0]) (by simp [L_check])
  · let r : Nat → Int := fun k => if k = 614 then v else 0
    have key : ∀ {val : Nat → Int} {sla : Nat → Option Addr × Nat}, Ag dnF (d.val r) val → TbOK Try.prog val sla ⟨[(18, [a 20], bo 614)], [], [], [], [], [], [], []⟩ := fun {val sla} hag => tbT (tCons (by
      have n20 : val 20 = d.op := hag 20 rfl
      rw [← bo_conc (hag 614 rfl : val 614 = v)]
      simp only [concs, conc, SX.eval]
      show Ret Try.prog 18 [.int .i64 (val 20)] _
      rw [n20]
      exact hv) tNil)
    by_cases h5 : 5 ≤ d.zs.length
    · obtain ⟨Y, _, hC, hC3⟩ := checkA (d.val r) (fun f hf => by
        simp only [List.mem_cons, List.not_mem_nil, or_false] at hf
        rcases hf with rfl | rfl
        · show (5 : Int) ≤ d.zs.length; omega
        · show (0 : Int) ≤ d.ts.length; omega)
      refine ⟨Y.getD 0 0, r, fun h0 => ?_, fun val sla hag => hC3 val sla hag holds_nil (key hag) (7, [fA], [.i 0]) (by simp [L_checkA])⟩
      unfold RofP at hC
      simp only [P_checkA, SB.eval, SX.eval, getD_c, h0, Bool.not_eq_true', beq_self_eq_true] at hC
      cases hC
    · obtain ⟨Y, _, hC, hC3⟩ := checkB (d.val r) (fun f hf => by
        simp only [List.mem_cons, List.not_mem_nil, or_false] at hf
        rcases hf with rfl | rfl | rfl
        · show (0 : Int) ≤ d.zs.length; omega
        · show (d.zs.length : Int) ≤ 4; omega
        · show (5 : Int) ≤ d.ts.length; omega)
      refine ⟨Y.getD 0 0, r, fun h0 => ?_, fun val sla hag => hC3 val sla hag holds_nil (key hag) (7, [fA], [.i 0]) (by simp [L_checkB])⟩
      unfold RofP at hC
      simp only [P_checkB, SB.eval, SX.eval, getD_c, h0, Bool.not_eq_true', beq_self_eq_true] at hC
      cases hC

end Go.Proofs.Ytlggmhchgicjkaa.Tab
