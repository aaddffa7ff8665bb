/-
  What fits fits as it is written best: a form that is told, instructions of at most nine operands.
-/
import Derived.Test.YtlggmhchgicjkaaAllW
import Derived.Test.YtlggmhchgicjkaaLgoW
import Derived.Test.YtlggmhchgicjkaaKno
namespace Go.Proofs.Ytlggmhchgicjkaa.Tab
open Go.Sim
set_option maxRecDepth 100000

/-! What is told of operands and numbers. -/

noncomputable def canC (z : Nat → Int) : Nat → Int := (arg_all z).choose

noncomputable def chkC (z : Nat → Int) : Int := (arg_all z).choose_spec.choose

noncomputable def sizC (z : Nat → Int) : Int := (arg_all z).choose_spec.choose_spec.choose

theorem argC (z : Nat → Int) : ArgR z (canC z) (chkC z) (sizC z) := (arg_all z).choose_spec.choose_spec.choose_spec

noncomputable def immM (s : Bool) (n b : Int) : Int := (imm_all s n b).choose

noncomputable def immE (s : Bool) (n b : Int) : Int := (imm_all s n b).choose_spec.choose

theorem immC (s : Bool) (n b : Int) : Ret Try.prog 11 [.int .i64 n, .int .i64 b, .bool s] (.tuple #[.int .i64 (immM s n b), .int .i64 (immE s n b)]) ∧ (immE s n b = 0 → Ret Try.prog 11 [.int .i64 (immM s n b), .int .i64 b, .bool s] (.tuple #[.int .i64 (immM s n b), .int .i64 0])) :=
  (imm_all s n b).choose_spec.choose_spec

theorem argL_congr {z y : Nat → Int} (h : ∀ j, j < 11 → z j = y j) : argL z = argL y := by
  show Value.agg ((List.range 11).map fun j => Value.int .i64 (z j)).toArray = Value.agg ((List.range 11).map fun j => Value.int .i64 (y j)).toArray
  have : ((List.range 11).map fun j => Value.int .i64 (z j)) = (List.range 11).map fun j => Value.int .i64 (y j) := by
    apply List.map_congr_left
    intro j hj
    rw [h j (List.mem_range.1 hj)]
  rw [this]

/-- An operand as it is written best, its immediate as that number in so many bits. -/
noncomputable def xz (s : Bool) (b : Int) (z : Nat → Int) (j : Nat) : Int := if j = 0 then z 0 else if j = 10 ∧ z 0 = 3 then immM s (canC z 10) b else canC z j

theorem xz_ne {s : Bool} {b : Int} {z : Nat → Int} (h0 : chkC z = 0) (h3 : z 0 ≠ 3) : argL (xz s b z) = argL (canC z) := argL_congr fun j _ => by
  unfold xz
  by_cases hj : j = 0
  · subst hj; rw [if_pos rfl, (argC z).kind h0]
  · rw [if_neg hj, if_neg (fun h => h3 h.2)]

theorem xz_chk {s : Bool} {b : Int} {z : Nat → Int} (h0 : chkC z = 0) : Ret Try.prog 20 [argL (xz s b z)] (.int .i64 0) := by
  by_cases h3 : z 0 = 3
  · have hk : xz s b z 0 = 3 := h3
    have := (argC (xz s b z)).check
    rw [((argC (xz s b z)).imm hk).1] at this
    exact this
  · rw [xz_ne h0 h3]
    exact (argC z).cchk h0

theorem xz_siz {s : Bool} {b : Int} {z : Nat → Int} (h0 : chkC z = 0) : Ret Try.prog 22 [argL (xz s b z)] (.int .i64 (sizC z)) := by
  by_cases h3 : z 0 = 3
  · have hk : xz s b z 0 = 3 := h3
    have := (argC (xz s b z)).size
    rw [((argC (xz s b z)).imm hk).2] at this
    rw [((argC z).imm h3).2]
    exact this
  · rw [xz_ne h0 h3]
    exact (argC z).csize h0

noncomputable def zsX (n : Nat) (s : Bool) (b : Int) (zs : List Int) : List Int := (List.range (11 * n)).map fun i => xz s b (arz zs (i / 11)) (i % 11)

theorem zsX_len (n : Nat) (s : Bool) (b : Int) (zs : List Int) : (zsX n s b zs).length = 11 * n := by
  unfold zsX
  rw [List.length_map, List.length_range]

theorem zsX_get {n : Nat} {s : Bool} {b : Int} {zs : List Int} {k j : Nat} (hk : k < n) (hj : j < 11) : (zsX n s b zs).getD (11 * k + j) 0 = xz s b (arz zs k) j := by
  unfold zsX
  rw [List.getD_eq_getElem?_getD, List.getElem?_map, List.getElem?_range (by omega), Option.map_some, Option.getD_some]
  have e1 : (11 * k + j) / 11 = k := by omega
  have e2 : (11 * k + j) % 11 = j := by omega
  rw [e1, e2]

theorem zsX_arg {n : Nat} {s : Bool} {b : Int} {zs : List Int} {k : Nat} (hk : k < n) : argOf (zsX n s b zs) k = argL (xz s b (arz zs k)) := by
  show argL (arz (zsX n s b zs) k) = _
  exact argL_congr fun j hj => zsX_get hk hj

/-! What all names stand for. -/

noncomputable def gg (d : Fm) (zs : List Int) (s : Bool) (b : Int) (q j : Nat) : Int :=
  if j = 11 then chkC (arz zs q) else if j = 12 then sizC (arz zs q) else if 21 ≤ j ∧ j ≤ 30 then canC (arz zs q) (j - 20) else if j = 31 then immE s (arz zs q 10) b else if j = 32 then immM s (arz zs q 10) b else
  if j = 33 then cond (fitN (d.zs.getD q 0) (givE (arz zs q) 0 0)) 1 0 else if j = 34 then cond (fitN (d.zs.getD q 0) (givE (arz zs q) b (immM s (arz zs q 10) b))) 1 0 else if j = 37 then immM s (canC (arz zs q) 10) b else 0

def loF (v mb ms b s ci cf : Int) : Nat → Int
  | 2 => v
  | 3 => mb
  | 4 => ms
  | 5 => b
  | 6 => s
  | 7 => ci
  | 28 => cf
  | _ => 0

def rr (d : Fm) (rF : Nat → Int) (lo : Nat → Int) (g : Nat → Nat → Int) : Nat → Int := fun k => if 40 ≤ k ∧ k < 400 then g ((k - 40) / 40) ((k - 40) % 40) else if k < 11 ∨ k = 28 ∨ k = 38 then lo k else d.val rF k

theorem rr_op {d : Fm} {rF lo : Nat → Int} {g : Nat → Nat → Int} {k j : Nat} (hk : k < 9) (hj : j < 40) : rr d rF lo g (40 + 40 * k + j) = g k j := by
  unfold rr
  have e1 : (40 + 40 * k + j - 40) / 40 = k := by omega
  have e2 : (40 + 40 * k + j - 40) % 40 = j := by omega
  rw [if_pos ⟨by omega, by omega⟩, e1, e2]

theorem rr_fm {d : Fm} {rF lo : Nat → Int} {g : Nat → Nat → Int} {k : Nat} (h : dnF k = true) : rr d rF lo g k = d.val rF k := by
  unfold dnF at h
  simp only [Bool.or_eq_true, Bool.and_eq_true] at h
  unfold rr
  rcases h with ⟨h1, h2⟩ | h
  · have h1 := Nat.le_of_ble_eq_true h1
    have h2 := Nat.le_of_ble_eq_true h2
    rw [if_neg (by omega), if_neg (by omega)]
  · have h := Nat.le_of_ble_eq_true h
    rw [if_neg (by omega), if_neg (by omega)]

theorem dnF_iv {k : Nat} (h : dnF k = true) : k ≠ 0 ∧ ¬ (40 ≤ k ∧ k < 400 ∧ (k - 40) % 40 < 11) ∧ k ≠ 1 := by
  unfold dnF at h
  simp only [Bool.or_eq_true, Bool.and_eq_true] at h
  rcases h with ⟨h1, h2⟩ | h
  · have h1 := Nat.le_of_ble_eq_true h1
    have h2 := Nat.le_of_ble_eq_true h2
    omega
  · have h := Nat.le_of_ble_eq_true h
    omega

theorem ag_iv {dn : Nat → Bool} {op : Int} {zs zs' : List Int} {r r' : Nat → Int} (h0 : ∀ k, dn k = true → k ≠ 0 → ¬ (40 ≤ k ∧ k < 400 ∧ (k - 40) % 40 < 11) → r' k = r k)
    (h1 : ∀ q j, q < 9 → j < 11 → dn (40 + 40 * q + j) = true → zs'.getD (11 * q + j) 0 = zs.getD (11 * q + j) 0) : Ag dn (iv op zs r) (iv op zs' r') := by
  intro k hk
  by_cases k0 : k = 0
  · subst k0; rfl
  · by_cases kc : 40 ≤ k ∧ k < 400 ∧ (k - 40) % 40 < 11
    · have e : k = 40 + 40 * ((k - 40) / 40) + (k - 40) % 40 := by omega
      rw [e] at hk ⊢
      rw [iv_cell (by omega) kc.2.2, iv_cell (by omega) kc.2.2]
      exact h1 _ _ (by omega) kc.2.2 hk
    · rw [iv_r k0 kc, iv_r k0 kc]
      exact h0 k hk k0 kc

/-- Operands of the same kinds. -/
def Kinds (zs zs' : List Int) : Prop := ∀ q, q < 9 → zs'.getD (11 * q) 0 = zs.getD (11 * q) 0

theorem dnB_get {k : Nat} (h : dnB k = true) : k = 2 ∨ k = 3 ∨ k = 4 ∨ k = 38 ∨ (40 ≤ k ∧ k < 400 ∧ (k - 40) % 40 = 12) := by
  unfold dnB at h
  simp only [Bool.or_eq_true, Bool.and_eq_true] at h
  rcases h with (⟨h1, h2⟩ | h) | ⟨⟨h1, h2⟩, h3⟩
  · have h1 := Nat.le_of_ble_eq_true h1; have h2 := Nat.le_of_ble_eq_true h2; omega
  · have h := Nat.eq_of_beq_eq_true h; omega
  · have h1 := Nat.le_of_ble_eq_true h1; have h2 := Nat.le_of_ble_eq_true h2; have h3 := Nat.eq_of_beq_eq_true h3; omega

theorem dnK_get {k : Nat} (h : dnK k = true) : k = 2 ∨ k = 3 ∨ k = 4 ∨ k = 5 ∨ k = 6 ∨ k = 38 ∨ (40 ≤ k ∧ k < 400 ∧ ((k - 40) % 40 = 0 ∨ (k - 40) % 40 = 11 ∨ (k - 40) % 40 = 31)) := by
  unfold dnK at h
  simp only [Bool.or_eq_true, Bool.and_eq_true] at h
  rcases h with (⟨h1, h2⟩ | h) | ⟨⟨h1, h2⟩, (h3 | h3) | h3⟩
  · have h1 := Nat.le_of_ble_eq_true h1; have h2 := Nat.le_of_ble_eq_true h2; omega
  · have h := Nat.eq_of_beq_eq_true h; omega
  · have h1 := Nat.le_of_ble_eq_true h1; have h2 := Nat.le_of_ble_eq_true h2; have h3 := Nat.eq_of_beq_eq_true h3; omega
  · have h1 := Nat.le_of_ble_eq_true h1; have h2 := Nat.le_of_ble_eq_true h2; have h3 := Nat.eq_of_beq_eq_true h3; omega
  · have h1 := Nat.le_of_ble_eq_true h1; have h2 := Nat.le_of_ble_eq_true h2; have h3 := Nat.eq_of_beq_eq_true h3; omega

theorem dnX_cell {q j : Nat} (hq : q < 9) (hj : j < 11) (h : dnX (40 + 40 * q + j) = true) : j = 0 := by
  unfold dnX dnF dnI dnO at h
  have e : (40 + 40 * q + j - 40) % 40 = j := by omega
  rw [e] at h
  simp only [Bool.or_eq_true, Bool.and_eq_true] at h
  rcases h with (((h | h) | h) | h) | h
  · have := Nat.eq_of_beq_eq_true h; omega
  · have := Nat.eq_of_beq_eq_true h; omega
  · rcases h with ⟨h1, h2⟩ | h
    · have h2 := Nat.le_of_ble_eq_true h2; omega
    · have h := Nat.le_of_ble_eq_true h; omega
  · rcases h with (⟨h1, h2⟩ | h) | ⟨_, h⟩
    · have h2 := Nat.le_of_ble_eq_true h2; omega
    · have h := Nat.eq_of_beq_eq_true h; omega
    · rcases h with ((h | h) | h) | h <;> (have h := Nat.eq_of_beq_eq_true h; omega)
  · rcases h.2 with h | h <;> (have h := Nat.eq_of_beq_eq_true h; omega)

theorem gg_12 {d : Fm} {zs : List Int} {s : Bool} {b : Int} {q : Nat} : gg d zs s b q 12 = sizC (arz zs q) := by
  unfold gg
  rw [if_neg (by decide), if_pos rfl]

theorem agB {d : Fm} {rF lo lo' : Nat → Int} {op : Int} {zs zs' : List Int} {s s' : Bool} {b b' : Int} (h2 : lo' 2 = lo 2) (h3 : lo' 3 = lo 3) (h4 : lo' 4 = lo 4) (h38 : lo' 38 = lo 38) : Ag dnB (iv op zs (rr d rF lo (gg d zs s b))) (iv op zs' (rr d rF lo' (gg d zs s' b'))) := by
  refine ag_iv (fun k hk _ _ => ?_) fun q j hq hj hk => ?_
  · rcases dnB_get hk with rfl | rfl | rfl | rfl | ⟨h1, h2, h5⟩
    · exact h2
    · exact h3
    · exact h4
    · exact h38
    · have e : k = 40 + 40 * ((k - 40) / 40) + 12 := by omega
      rw [e, rr_op (by omega) (by omega), rr_op (by omega) (by omega), gg_12, gg_12]
  · rcases dnB_get hk with h | h | h | h | ⟨_, _, h⟩ <;> omega

theorem agK {d : Fm} {rF lo lo' : Nat → Int} {op : Int} {zs zs' : List Int} {s : Bool} {b : Int} (hk' : Kinds zs zs') (h2 : lo' 2 = lo 2) (h3 : lo' 3 = lo 3) (h4 : lo' 4 = lo 4) (h5 : lo' 5 = lo 5) (h6 : lo' 6 = lo 6) (h38 : lo' 38 = lo 38) :
    Ag dnK (iv op zs (rr d rF lo (gg d zs s b))) (iv op zs' (rr d rF lo' (gg d zs s b))) := by
  refine ag_iv (fun k hk _ hn => ?_) fun q j hq hj hk => ?_
  · rcases dnK_get hk with rfl | rfl | rfl | rfl | rfl | rfl | ⟨h1, h2, h⟩
    · exact h2
    · exact h3
    · exact h4
    · exact h5
    · exact h6
    · exact h38
    · have e : k = 40 + 40 * ((k - 40) / 40) + (k - 40) % 40 := by omega
      rw [e, rr_op (by omega) (by omega), rr_op (by omega) (by omega)]
  · have hj0 : j = 0 := by rcases dnK_get hk with h | h | h | h | h | h | ⟨_, _, h⟩ <;> omega
    subst hj0
    exact hk' q hq

theorem agX {op : Int} {zs zs' : List Int} {r : Nat → Int} (hk' : Kinds zs zs') : Ag dnX (iv op zs r) (iv op zs' r) := by
  refine ag_iv (fun k _ _ _ => rfl) fun q j hq hj hk => ?_
  obtain rfl := dnX_cell hq hj hk
  exact hk' q hq

theorem fit_kind {s : Int} {z y : Nat → Int} {b n : Int} (h0 : y 0 = z 0) (h1 : z 0 = 1 → y 1 = z 1 ∧ y 2 = z 2) (h2 : z 0 = 2 → y 9 = z 9) (h4 : z 0 = 4 → y 10 = z 10) : fitN s (givE y b n) = fitN s (givE z b n) :=
  fit_congr (z := givE z b n) (y := givE y b n) h0 h1 h2 h4 rfl rfl _

theorem law_R (d : Fm) (hS : (d.zs.length : Int) ≤ d.cS) (hT : (d.ts.length : Int) ≤ d.cT) (hz9 : d.zs.length ≤ 9) (ht9 : d.ts.length ≤ 9) (n : Nat) (h9 : n ≤ 9) (op : Int) (zs : List Int) (hl : zs.length = 11 * n) (sla : Nat → Option Addr × Nat) :
    XF 3 (d.val fun _ => 0) sla op zs (.bool true) := by
  obtain ⟨cf, rF, hcf, hC⟩ := form_check d hS hT
  obtain ⟨v, mb, ms, hmb, h18, h21⟩ := name_all op
  obtain ⟨b, s, hB⟩ := bits_n n h9 (iv op zs (rr d rF (loF v mb ms 0 0 0 0) (gg d zs false 0))) hmb rfl
  obtain ⟨ci, hci, hci5, hK⟩ := chk_n n h9 (iv op zs (rr d rF (loF v mb ms b s 0 cf) (gg d zs (s == 1) b))) rfl
  have hr : ∃ r, r = rr d rF (loF v mb ms b s ci cf) (gg d zs (s == 1) b) := ⟨_, rfl⟩
  obtain ⟨r, hr⟩ := hr
  have g : ∀ k j, k < 9 → j < 40 → r (40 + 40 * k + j) = gg d zs (s == 1) b k j := fun k j hk hj => by rw [hr]; exact rr_op hk hj
  have r5 : r 5 = b := by rw [hr]; rfl
  have r6 : r 6 = s := by rw [hr]; rfl
  have r7 : r 7 = ci := by rw [hr]; rfl
  have r28 : r 28 = cf := by rw [hr]; rfl
  have r38 : r 38 = 0 := by rw [hr]; rfl
  have r11 : r 11 = d.zs.length := by rw [hr]; rfl
  have r13 : r 13 = d.ts.length := by rw [hr]; rfl
  have r20 : r 20 = d.op := by rw [hr]; rfl
  have rz : ∀ k, k < 9 → r (400 + k) = d.zs.getD k 0 := fun k hk => by
    rw [hr, rr_fm (by unfold dnF; simp only [Bool.or_eq_true]; exact .inr (Nat.ble_eq_true_of_le (by omega)))]
    exact fm_z d rF (by omega)
  have h18' : Ret Try.prog 18 [.int .i64 op] (.bool (r 2 == 1)) := by rw [hr]; exact h18
  have h21' : Ret Try.prog 21 [.int .i64 op] (.tuple #[.int .i64 (r 3), .bool (r 4 == 1)]) := by rw [hr]; exact h21
  have rF' : ∀ k, dnF k = true → r k = d.val rF k := fun k hk => by rw [hr]; exact rr_fm hk
  have form : ∀ zs' : List Int, ∀ (sla' : Nat → Option Addr × Nat) (c : Nat), RetO Try.prog 7 [fA] outsF sla' (iv op zs' (capR r c)) (.int .i64 (r 28)) ∧ RetO Try.prog 7 [fA] outsF sla' (iv op zs' r) (.int .i64 (r 28)) := by
    intro zs' sla' c
    rw [r28]
    have k1 : Ag dnF (d.val rF) (iv op zs' r) := fun k hk => by
      obtain ⟨a1, a2, _⟩ := dnF_iv hk
      rw [iv_r a1 a2]
      exact rF' k hk
    have k2 : Ag dnF (d.val rF) (iv op zs' (capR r c)) := ag_cap k1 rfl
    exact ⟨hC _ sla' k2, hC _ sla' k1⟩
  -- Bits, Check
  have agb : ∀ zs', Ag dnB (iv op zs (rr d rF (loF v mb ms 0 0 0 0) (gg d zs false 0))) (iv op zs' r) := fun zs' => by rw [hr]; exact agB rfl rfl rfl rfl
  have agk : ∀ zs', Kinds zs zs' → Ag dnK (iv op zs (rr d rF (loF v mb ms b s 0 cf) (gg d zs (s == 1) b))) (iv op zs' r) := fun zs' hk => by rw [hr]; exact agK hk rfl rfl rfl rfl rfl rfl
  have i9 : RI 9 op zs (.tuple #[.int .i64 (r 5), .bool (r 6 == 1)]) := by
    rw [r5, r6]
    refine hB op zs r hl (agb zs) h18' h21' fun hn => ?_
    have e : r 52 = sizC (arz zs 0) := g 0 12 (by omega) (by omega)
    rw [e]
    exact (argC (arz zs 0)).size
  have imm1 : ∀ k, k < n → zs.getD (11 * k) 0 = 3 → Ret Try.prog 11 [.int .i64 (zs.getD (11 * k + 10) 0), .int .i64 (r 5), .bool (r 6 == 1)] (.tuple #[.int .i64 (r (40 + 40 * k + 32)), .int .i64 (r (40 + 40 * k + 31))]) := by
    intro k hk _
    rw [g k 32 (by omega) (by omega), g k 31 (by omega) (by omega), r5, r6]
    exact (immC (s == 1) (arz zs k 10) b).1
  have i8 : RI 8 op zs (.int .i64 (r 7)) := by
    rw [r7]
    refine hK op zs r hl (agk zs fun _ _ => rfl) h18' (fun k hk => ?_) imm1 i9
    rw [g k 11 (by omega) (by omega)]
    exact (argC (arz zs k)).check
  -- Fits
  obtain ⟨t, ht, hF⟩ := fit_n n h9 (iv op zs r) (fun h1 h2 => by
    have h1 : r 28 = 0 := h1
    have h2 : r 11 = n := h2
    rw [r28] at h1
    rw [r11] at h2
    obtain ⟨q1, q2⟩ := hcf h1
    refine ⟨by omega, fun k hk => ?_⟩
    have e : iv op zs r (400 + k) = r (400 + k) := iv_r (by omega) (by omega)
    rw [e, rz k (by omega)]
    exact q2 k (by omega)) (show 0 ≤ r 11 ∧ r 11 ≤ 100 by rw [r11]; omega) (show 0 ≤ r 13 ∧ r 13 ≤ 100 by rw [r13]; omega) r38
  have hXi : XF 6 (iv op zs r) sla op zs (.bool (t == 1)) := by
    refine hF op zs r sla hl agR (form zs) i8 i9 imm1 fun k hk => ⟨fun _ => ?_, fun _ => ?_⟩
    · rw [g k 33 (by omega) (by omega), rz k (by omega)]
      exact b01 _
    · rw [g k 34 (by omega) (by omega), g k 32 (by omega) (by omega), rz k (by omega), r5]
      exact b01 _
  have hL : LawH op zs n r := ⟨hl, formKnown, form zs, i8, by rw [r11]; omega, by rw [r13]; omega, r38⟩
  have main : XF 3 (iv op zs r) sla op zs (.bool true) := by
    by_cases h0 : ci = 0
    · have h4 : n ≤ 4 := by
        rcases Nat.lt_or_ge 4 n with h | h
        · exact absurd h0 (hci5 h)
        · exact h
      have hco : ∀ k, k < n → chkC (arz zs k) = 0 ∧ (arz zs k 0 = 3 → immE (s == 1) (arz zs k 10) b = 0) := by
        intro k hk
        obtain ⟨q1, q2⟩ := hci h4 h0 k hk
        have e1 : iv op zs (rr d rF (loF v mb ms b s 0 cf) (gg d zs (s == 1) b)) (40 + 40 * k + 11) = chkC (arz zs k) := by
          rw [iv_r (by omega) (by omega), rr_op (by omega) (by omega)]
          rfl
        have e2 : iv op zs (rr d rF (loF v mb ms b s 0 cf) (gg d zs (s == 1) b)) (40 + 40 * k + 31) = immE (s == 1) (arz zs k 10) b := by
          rw [iv_r (by omega) (by omega), rr_op (by omega) (by omega)]
          rfl
        have e3 : iv op zs (rr d rF (loF v mb ms b s 0 cf) (gg d zs (s == 1) b)) (40 + 40 * k) = arz zs k 0 := by
          have := iv_cell (op := op) (zs := zs) (r := rr d rF (loF v mb ms b s 0 cf) (gg d zs (s == 1) b)) (k := k) (j := 0) (by omega) (by omega)
          rw [Nat.add_zero, Nat.add_zero] at this
          exact this
        rw [e1] at q1
        rw [e2, e3] at q2
        exact ⟨q1, q2⟩
      have zl := zsX_len n (s == 1) b zs
      have zk : ∀ k, k < n → (zsX n (s == 1) b zs).getD (11 * k) 0 = arz zs k 0 := fun k hk => by
        have := zsX_get (n := n) (s := (s == 1)) (b := b) (zs := zs) (k := k) (j := 0) hk (by omega)
        rw [Nat.add_zero] at this
        rw [this]
        rfl
      have hkin : Kinds zs (zsX n (s == 1) b zs) := fun q _ => by
        by_cases hq : q < n
        · rw [zk q hq]
          rfl
        · rw [List.getD_eq_getElem?_getD, List.getD_eq_getElem?_getD, List.getElem?_eq_none (by omega), List.getElem?_eq_none (by omega)]
      have x9 : RI 9 op (zsX n (s == 1) b zs) (.tuple #[.int .i64 (r 5), .bool (r 6 == 1)]) := by
        rw [r5, r6]
        refine hB op _ r zl (agb _) h18' h21' fun hn => ?_
        have e : r 52 = sizC (arz zs 0) := g 0 12 (by omega) (by omega)
        rw [e, zsX_arg hn]
        exact xz_siz (hco 0 hn).1
      have imm2 : ∀ k, k < n → (zsX n (s == 1) b zs).getD (11 * k) 0 = 3 → Ret Try.prog 11 [.int .i64 ((zsX n (s == 1) b zs).getD (11 * k + 10) 0), .int .i64 (r 5), .bool (r 6 == 1)] (.tuple #[.int .i64 (r (40 + 40 * k + 32)), .int .i64 (r (40 + 40 * k + 31))]) := by
        intro k hk h3
        rw [zk k hk] at h3
        have e0 := (hco k hk).2 h3
        rw [g k 32 (by omega) (by omega), g k 31 (by omega) (by omega), r5, r6, zsX_get hk (by omega)]
        have ex : xz (s == 1) b (arz zs k) 10 = immM (s == 1) (arz zs k 10) b := by
          unfold xz
          rw [if_neg (by omega), if_pos ⟨rfl, h3⟩, (argC (arz zs k)).k3 (hco k hk).1 h3]
        rw [ex]
        show Ret Try.prog 11 _ (.tuple #[.int .i64 (immM (s == 1) (arz zs k 10) b), .int .i64 (immE (s == 1) (arz zs k 10) b)])
        rw [e0]
        exact (immC (s == 1) (arz zs k 10) b).2 e0
      have x8 : RI 8 op (zsX n (s == 1) b zs) (.int .i64 (r 7)) := by
        rw [r7]
        refine hK op _ r zl (agk _ hkin) h18' (fun k hk => ?_) imm2 x9
        rw [g k 11 (by omega) (by omega), zsX_arg hk]
        show Ret Try.prog 20 _ (.int .i64 (chkC (arz zs k)))
        rw [(hco k hk).1]
        exact xz_chk (hco k hk).1
      have hXx0 : XF 6 (iv op (zsX n (s == 1) b zs) r) sla op (zsX n (s == 1) b zs) (.bool (t == 1)) := by
        refine hF op _ r sla zl (agX hkin) (form _) x8 x9 imm2 fun k hk => ?_
        have hc := (hco k hk).1
        have y0 : arz (zsX n (s == 1) b zs) k 0 = arz zs k 0 := zk k hk
        have yj : ∀ j, 0 < j → j < 11 → ¬ (j = 10 ∧ arz zs k 0 = 3) → arz (zsX n (s == 1) b zs) k j = canC (arz zs k) j := fun j h1 h2 h3 => by
          show (zsX n (s == 1) b zs).getD (11 * k + j) 0 = _
          rw [zsX_get hk h2]
          unfold xz
          rw [if_neg (by omega), if_neg h3]
        have key : ∀ m u, fitN (d.zs.getD k 0) (givE (arz (zsX n (s == 1) b zs) k) m u) = fitN (d.zs.getD k 0) (givE (arz zs k) m u) := fun m u => fit_kind y0
          (fun h1 => by
            obtain ⟨q1, q2⟩ := (argC (arz zs k)).k1 hc h1
            exact ⟨(yj 1 (by omega) (by omega) (by omega)).trans q1, (yj 2 (by omega) (by omega) (by omega)).trans q2⟩)
          (fun h2 => (yj 9 (by omega) (by omega) (by omega)).trans ((argC (arz zs k)).k2 hc h2))
          (fun h4 => (yj 10 (by omega) (by omega) (by omega)).trans ((argC (arz zs k)).k4 hc h4))
        refine ⟨fun _ => ?_, fun _ => ?_⟩
        · rw [g k 33 (by omega) (by omega), rz k (by omega), key]
          exact b01 _
        · rw [g k 34 (by omega) (by omega), g k 32 (by omega) (by omega), rz k (by omega), r5, key]
          exact b01 _
      have hXx : XF 6 (iv op zs r) sla op (zsX n (s == 1) b zs) (.bool (t == 1)) := by
        refine xf_congr (u := iv op (zsX n (s == 1) b zs) r) (v := iv op zs r) (fun k hk => ?_) rfl rfl (show r 11 ≤ 100 ∧ r 13 ≤ 100 by rw [r11, r13]; omega) hXx0
        obtain ⟨a1, a2, _⟩ := dnF_iv (dn0_F hk)
        rw [iv_r a1 a2, iv_r a1 a2]
      have hT' : LawT op zs (zsX n (s == 1) b zs) n r := by
        refine ⟨i9, fun k hk => ?_, fun k hk h3 => ?_, zl, fun k j hk hj => ?_⟩
        · have q := (argC (arz zs k)).canon
          rw [(hco k hk).1] at q
          have e : argL (fun j => if j = 0 then zs.getD (11 * k) 0 else r (40 + 40 * k + 20 + j)) = argL (canC (arz zs k)) := argL_congr fun j hj => by
            by_cases hj0 : j = 0
            · subst hj0
              rw [if_pos rfl, (argC (arz zs k)).kind (hco k hk).1]
              rfl
            · rw [if_neg hj0, show 40 + 40 * k + 20 + j = 40 + 40 * k + (20 + j) by omega, g k (20 + j) (by omega) (by omega)]
              unfold gg
              rw [if_neg (by omega), if_neg (by omega), if_pos (by omega), Nat.add_sub_cancel_left]
          rw [e]
          exact q
        · have h3' : arz zs k 0 = 3 := h3
          rw [g k 30 (by omega) (by omega), g k 37 (by omega) (by omega), r5, r6]
          have q := (immC (s == 1) (canC (arz zs k) 10) b).1
          have e0 : immE (s == 1) (canC (arz zs k) 10) b = 0 := by
            rw [(argC (arz zs k)).k3 (hco k hk).1 h3']
            exact (hco k hk).2 h3'
          rw [e0] at q
          exact q
        · rw [zsX_get hk hj]
          unfold xz
          by_cases hj0 : j = 0
          · rw [if_pos hj0, if_pos hj0]
            rfl
          · rw [if_neg hj0, if_neg hj0]
            have hz0 : arz zs k 0 = zs.getD (11 * k) 0 := rfl
            rw [hz0]
            by_cases hj1 : j = 10 ∧ zs.getD (11 * k) 0 = 3
            · rw [if_pos hj1, if_pos hj1, g k 37 (by omega) (by omega)]
              rfl
            · rw [if_neg hj1, if_neg hj1, show 40 + 40 * k + 20 + j = 40 + 40 * k + (20 + j) by omega, g k (20 + j) (by omega) (by omega)]
              unfold gg
              rw [if_neg (by omega), if_neg (by omega), if_pos (by omega), Nat.add_sub_cancel_left]
      have h7 : r 7 = 0 := by rw [r7]; exact h0
      by_cases t1 : t = 1
      · subst t1
        obtain ⟨q1, q2, q3, q4⟩ := ht rfl
        exact law_n n h4 true hL hT' h7 (fun _ => ⟨q1, q3, q4⟩) hXi hXx
      · have tf : (t == 1) = false := beq_eq_false_iff_ne.2 t1
        rw [tf] at hXi hXx
        exact law_n n h4 false hL hT' h7 (fun h => by cases h) hXi hXx
    · have tf : (t == 1) = false := beq_eq_false_iff_ne.2 fun t1 => h0 (r7.symm.trans (ht t1).2.1)
      rw [tf] at hXi
      exact law_e n h9 hL (by rw [r7]; exact h0) hXi
  refine xf_congr (u := iv op zs r) (v := d.val fun _ => 0) (fun k hk => ?_) rfl rfl (show r 11 ≤ 100 ∧ r 13 ≤ 100 by rw [r11, r13]; omega) main
  obtain ⟨a1, a2, _⟩ := dnF_iv (dn0_F hk)
  rw [iv_r a1 a2, rF' k (dn0_F hk)]
  exact (agFm d (r := rF) (r' := fun _ => 0) (dn := dn0) fun k hk h6 => by have := dn0_lt hk; omega) k hk |>.symm

end Go.Proofs.Ytlggmhchgicjkaa.Tab
