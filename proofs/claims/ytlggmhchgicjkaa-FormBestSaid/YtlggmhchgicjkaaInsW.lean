/-
  What inst.Bits and inst.Check give of any instruction of at most nine operands.
-/
import Derived.Test.YtlggmhchgicjkaaInsD
import Derived.Test.YtlggmhchgicjkaaTbW
namespace Go.Proofs.Ytlggmhchgicjkaa.Tab
open Go.Sim
set_option maxRecDepth 100000

/-- A slice of operands of these numbers, eleven to each. -/
def SliV (w : World) (x : Value) (zs : List Int) : Prop := (zs = [] ∧ (x = .slice none 0 0 ∨ ∃ ad cap, x = .slice (some ad) 0 cap)) ∨ SlOf w 11 x (zs.map (Value.int .i64))

abbrev insV (op : Int) (x : Value) : Value := .agg #[.int .i64 op, x]

/-- What a call of an instruction gives. -/
def RI (f : FuncId) (op : Int) (zs : List Int) (v : Value) : Prop := ∀ w x, SliV w x zs → Calls Try.prog f #[insV op x] w fun e w' => e = .returned v ∧ RowKit.Below w.heap.size w w'

/-- The names of an instruction: its mnemonic, its operands' cells; the others as they are told. -/
def iv (op : Int) (zs : List Int) (r : Nat → Int) : Nat → Int := fun k => if k = 0 then op else if 40 ≤ k ∧ k < 400 ∧ (k - 40) % 40 < 11 then zs.getD (11 * ((k - 40) / 40) + (k - 40) % 40) 0 else r k

/-- The k-th operand. -/
def argOf (zs : List Int) (k : Nat) : Value := .agg ((List.range 11).map fun j => Value.int .i64 (zs.getD (11 * k + j) 0)).toArray

theorem iv_cell {op : Int} {zs : List Int} {r : Nat → Int} {k j : Nat} (hk : k < 9) (hj : j < 11) : iv op zs r (40 + 40 * k + j) = zs.getD (11 * k + j) 0 := by
  unfold iv
  have e1 : (40 + 40 * k + j - 40) / 40 = k := by omega
  have e2 : (40 + 40 * k + j - 40) % 40 = j := by omega
  rw [if_neg (by omega), if_pos ⟨by omega, by omega, by omega⟩, e1, e2]

theorem iv_0 {op : Int} {zs : List Int} {r : Nat → Int} : iv op zs r 0 = op := rfl

theorem iv_r {op : Int} {zs : List Int} {r : Nat → Int} {k : Nat} (h0 : k ≠ 0) (h : ¬ (40 ≤ k ∧ k < 400 ∧ (k - 40) % 40 < 11)) : iv op zs r k = r k := by
  unfold iv
  rw [if_neg h0, if_neg h]

theorem takeL_take : ∀ (n : Nat) (l : List AV), takeL n l = l.take n := by
  intro n
  induction n with
  | zero => intro l; rfl
  | succ n ih => intro l; cases l with
    | nil => rfl
    | cons x r => show x :: takeL n r = _; rw [ih r]; rfl

theorem c99_eq : c99 = (List.range 99).map (fun i => AV.sx .i64 (.a (40 + 40 * (i / 11) + i % 11))) := rfl

theorem cl_get {n i : Nat} (h9 : n ≤ 9) (h : i < 11 * n) : (cl n)[i]? = some (.sx .i64 (.a (40 + 40 * (i / 11) + i % 11))) := by
  rw [cl, takeL_take, List.getElem?_take, if_pos h, c99_eq, List.getElem?_map, List.getElem?_range (by omega)]
  rfl

theorem cl_len {n : Nat} (h9 : n ≤ 9) : (cl n).length = 11 * n := by
  rw [cl, takeL_take, List.length_take]
  have : c99.length = 99 := rfl
  omega

theorem cl_concs {I : Syms} {n : Nat} {op : Int} {zs : List Int} {r : Nat → Int} (hv : I.val = iv op zs r) (h9 : n ≤ 9) (hl : zs.length = 11 * n) (E : Env) : @concs I E (cl n) = zs.map (Value.int .i64) := by
  rw [@concs_eq I]
  apply List.ext_getElem?
  intro i
  rw [List.getElem?_map, List.getElem?_map]
  by_cases hi : i < 11 * n
  · rw [cl_get h9 hi, List.getElem?_eq_getElem (by omega)]
    simp only [Option.map_some, conc, SX.eval]
    rw [hv, iv_cell (by omega) (by omega), List.getD_eq_getElem?_getD]
    have e : 11 * (i / 11) + i % 11 = i := by omega
    rw [e, List.getElem?_eq_getElem (by omega)]
    rfl
  · rw [List.getElem?_eq_none (by rw [cl_len h9]; omega), List.getElem?_eq_none (by omega)]
    rfl

theorem sli_pos {w : World} {x : Value} {zs : List Int} {n : Nat} (hn : 0 < n) (hl : zs.length = 11 * n) (h : SliV w x zs) : ∃ b off cap, x = .slice (some ⟨b, off, none⟩) n cap ∧ n ≤ cap ∧ b < w.heap.size ∧ ∀ (i : Nat) (z : Value), (zs.map (Value.int .i64))[i]? = some z → w.cell? ⟨b, off + i, none⟩ = some z := by
  rcases h with ⟨rfl, _⟩ | ⟨b, off, len, cap, h0, rfl, h2, h3, h4, h5⟩
  · simp at hl; omega
  · rw [List.length_map] at h2
    obtain rfl : len = n := by omega
    exact ⟨b, off, cap, rfl, h3, h4, h5⟩

theorem sli_zero {w : World} {x : Value} (h : SliV w x []) : ∃ ad cap, x = .slice ad 0 cap ∧ (ad = none → cap = 0) := by
  rcases h with ⟨_, rfl | ⟨ad, cap, rfl⟩⟩ | ⟨b, off, len, cap, h0, rfl, h2, h3, h4, h5⟩
  · exact ⟨none, 0, rfl, fun _ => rfl⟩
  · exact ⟨some ad, cap, rfl, fun h => by cases h⟩
  · simp at h2; omega

/-- Slices' addresses: that of an empty slice is such a one. -/
def SlaOK (sla : Nat → Option Addr × Nat) : Prop := (sla 38).1 = none → (sla 38).2 = 0

theorem sli_of {w : World} {sla : Nat → Option Addr × Nat} (h : SlaOK sla) : SliV w (.slice (sla 38).1 0 (sla 38).2) [] := by
  unfold SlaOK at h
  refine .inl ⟨rfl, ?_⟩
  cases e : (sla 38).1 with
  | none => rw [h e]; exact .inl rfl
  | some ad => exact .inr ⟨ad, _, rfl⟩

theorem pat_of {op : Int} {zs : List Int} {r : Nat → Int} {n : Nat} {sla : Nat → Option Addr × Nat} (h9 : n ≤ 9) (hl : zs.length = 11 * n) {w : World} {y : Value} (hp : @PtOf (nameS (iv op zs r) sla) w (pat n) y) : ∃ x, y = insV op x ∧ SliV w x zs := by
  obtain ⟨ws, rfl, y, ys, rfl, h1, ⟨z, zs', rfl, h2, rfl⟩⟩ := hp
  have h1 : y = .int .i64 op := h1
  have h2 : SlOf w 11 z (@concs (nameS (iv op zs r) sla) E0 (cl n)) := h2
  rw [cl_concs (I := nameS (iv op zs r) sla) rfl h9 hl] at h2
  subst h1
  exact ⟨z, rfl, .inr h2⟩

theorem patE_of {op : Int} {zs : List Int} {r : Nat → Int} {sla : Nat → Option Addr × Nat} (hs : SlaOK sla) (h38 : r 38 = 0) {w : World} {y : Value} (hp : @PtOf (nameS (iv op zs r) sla) w patE y) : ∃ x, y = insV op x ∧ SliV w x [] := by
  obtain ⟨ws, rfl, y, ys, rfl, h1, ⟨z, zs', rfl, h2, rfl⟩⟩ := hp
  have h1 : y = .int .i64 op := h1
  have h2 : z = .slice (sla 38).1 (r 38).toNat (sla 38).2 := h2
  rw [h38] at h2
  subst h1 h2
  exact ⟨_, rfl, sli_of hs⟩

/-- An entry of a table out of what is known of a call. -/
theorem me_of {val : Nat → Int} {op : Int} {zs : List Int} {sla : Nat → Option Addr × Nat} {p : Pt} {f : FuncId} {v : Value} {v0 : AV} (hp : ∀ w y, @PtOf (nameS val sla) w p y → ∃ x, y = insV op x ∧ SliV w x zs) (hv : v = @conc (nameS val sla) E0 v0) (h : RI f op zs v) :
    ∀ w vs, @PtsOf (nameS val sla) w [p] vs → @SummV (nameS val sla) Try.prog f vs v0 [] w := by
  intro w vs hvs
  obtain ⟨y, us, rfl, hy, rfl⟩ := hvs
  obtain ⟨x, rfl, hx⟩ := hp w y hy
  exact @summV_plain Try.prog (nameS val sla) f _ v0 v w hv (h w x hx)

theorem row_conc {op : Int} {zs : List Int} {r : Nat → Int} {sla : Nat → Option Addr × Nat} {k : Nat} (hk : k < 9) : @concs (nameS (iv op zs r) sla) E0 [.agg ((List.range 11).map fun j => a (40 + 40 * k + j))] = [argOf zs k] := by
  simp only [concs, conc]
  have : @concs (nameS (iv op zs r) sla) E0 ((List.range 11).map fun j => a (40 + 40 * k + j)) = (List.range 11).map fun j => Value.int .i64 (zs.getD (11 * k + j) 0) := by
    rw [@concs_eq (nameS (iv op zs r) sla), List.map_map]
    apply List.map_congr_left
    intro j hj
    rw [List.mem_range] at hj
    simp only [Function.comp_def, conc, SX.eval]
    rw [show (nameS (iv op zs r) sla).val = iv op zs r from rfl, iv_cell hk hj]
  rw [this]
  rfl

theorem out_ok {op : Int} {zs : List Int} {r : Nat → Int} {n b off : Nat} {w : World} {sla : Nat → Option Addr × Nat} (h9 : n ≤ 9) (hl : zs.length = 11 * n) (hb : b < w.heap.size) (hc : ∀ (i : Nat) (z : Value), (zs.map (Value.int .i64))[i]? = some z → w.cell? ⟨b, off + i, none⟩ = some z) :
    @OutOK (nameS (iv op zs r) sla) ⟨fun _ => b, fun _ => off⟩ w (outsI n) := by
  intro k o hk
  cases k with
  | zero =>
    simp only [outsI, List.getElem?_cons_zero, Option.some.injEq] at hk
    subst hk
    refine ⟨hb, fun _ i v hv => ?_, fun ki k0 m he => by simp at he⟩
    have e := cl_concs (I := nameS (iv op zs r) sla) rfl h9 hl ⟨fun _ => b, fun _ => off⟩
    refine hc i _ ?_
    rw [← e, @concs_eq (nameS (iv op zs r) sla), List.getElem?_map]
    have hv : (cl n)[i]? = some v := hv
    rw [hv]
    rfl
  | succ k => simp [outsI] at hk

/-- With another reach. -/
def capR (r : Nat → Int) (c : Nat) : Nat → Int := fun k => if k = 1 then (c : Int) else r k

theorem iv_cap {op : Int} {zs : List Int} {r : Nat → Int} {c k : Nat} (h : k ≠ 1) : iv op zs (capR r c) k = iv op zs r k := by
  unfold iv capR
  rw [if_neg h]

theorem ag_cap {op : Int} {zs : List Int} {r u : Nat → Int} {c : Nat} {dn : Nat → Bool} (h : Ag dn u (iv op zs r)) (h1 : dn 1 = false) : Ag dn u (iv op zs (capR r c)) := by
  intro k hk
  rw [iv_cap (by rintro rfl; rw [h1] at hk; cases hk)]
  exact h k hk

theorem inst_conc {op : Int} {zs : List Int} {r : Nat → Int} {n b off c : Nat} {sla : Nat → Option Addr × Nat} : @concs (nameS (iv op zs (capR r c)) sla) ⟨fun _ => b, fun _ => off⟩ [instB 0 n] = [insV op (.slice (some ⟨b, off, none⟩) n c)] := by
  simp only [concs, conc]
  rfl

theorem riN {n : Nat} (hn : 0 < n) (h9 : n ≤ 9) {f : FuncId} {op : Int} {zs : List Int} {r : Nat → Int} {v : Value} (hl : zs.length = 11 * n) (h : ∀ c : Nat, n ≤ c → RetO Try.prog f [instB 0 n] (outsI n) sl0 (iv op zs (capR r c)) v) : RI f op zs v := by
  intro w x hx
  obtain ⟨b, off, cap, rfl, g1, g2, g3⟩ := sli_pos hn hl hx
  have k := h cap g1 ⟨fun _ => b, fun _ => off⟩ w (out_ok h9 hl g2 g3)
  rw [inst_conc] at k
  exact k

theorem riZ {f : FuncId} {op : Int} {r : Nat → Int} {v : Value} (h38 : r 38 = 0) (h : ∀ sla, SlaOK sla → RetO Try.prog f [instE] [] sla (iv op [] r) v) : RI f op [] v := by
  intro w x hx
  obtain ⟨ad, cap, rfl, hc⟩ := sli_zero hx
  have k := h (fun _ => (ad, cap)) hc E0 w (fun k o hk => by simp at hk)
  have e : @concs (nameS (iv op [] r) fun _ => (ad, cap)) E0 [instE] = [insV op (.slice ad 0 cap)] := by
    simp only [concs, conc]
    show [Value.agg #[.int .i64 op, .slice ad (r 38).toNat cap]] = _
    rw [h38]
    rfl
  rw [e] at k
  exact k

theorem hcap {op : Int} {zs : List Int} {r : Nat → Int} {c n : Nat} (h : n ≤ c) : Holds (iv op zs (capR r c)) [.ge (.a 1) n] := by
  intro f hf
  obtain rfl := List.mem_singleton.1 hf
  show (n : Int) ≤ iv op zs (capR r c) 1
  show (n : Int) ≤ (c : Int)
  omega

theorem holds1 {r : Nat → Int} {f : Fact} (h : f.holds r) : Holds r [f] := fun g hg => by
  obtain rfl := List.mem_singleton.1 hg
  exact h

theorem ret_int {f : FuncId} {args : List Value} {u v : Int} (h : u = v) (k : Ret Try.prog f args (.int .i64 u)) : Ret Try.prog f args (.int .i64 v) := h ▸ k

/-! Bits. -/

theorem bitsR0 (u : Nat → Int) (h3 : 0 ≤ u 3) (h38 : u 38 = 0) : ∃ b s : Int, ∀ (op : Int) (r : Nat → Int), Ag dnB u (iv op [] r) → Ret Try.prog 18 [.int .i64 op] (.bool (r 2 == 1)) → Ret Try.prog 21 [.int .i64 op] (.tuple #[.int .i64 (r 3), .bool (r 4 == 1)]) → RI 9 op [] (.tuple #[.int .i64 b, .bool (s == 1)]) := by
  obtain ⟨Y, _, _, hc⟩ := bits0 u (fun f hf => by
    simp only [List.mem_cons, List.not_mem_nil, or_false] at hf
    rcases hf with rfl | rfl
    · exact h3
    · exact h38)
  refine ⟨Y.getD 0 0, Y.getD 1 0, fun op r hag h18 h21 => riZ (r := r) ((hag 38 rfl).trans h38) fun sla _ => ?_⟩
  exact hc _ sla hag holds_nil (tbT (tCons (by
    simp only [concs, conc]
    exact h18) (tCons (by
    simp only [concs, conc]
    exact h21) tNil))) (9, [instE], [.i 0, .b 1]) (by simp [L_bits0])

theorem bitsR1 (u : Nat → Int) (h3 : 0 ≤ u 3) : ∃ b s : Int, ∀ (op : Int) (zs : List Int) (r : Nat → Int), zs.length = 11 * 1 → Ag dnB u (iv op zs r) → Ret Try.prog 18 [.int .i64 op] (.bool (r 2 == 1)) → Ret Try.prog 21 [.int .i64 op] (.tuple #[.int .i64 (r 3), .bool (r 4 == 1)]) → Ret Try.prog 22 [argOf zs 0] (.int .i64 (r 52)) → RI 9 op zs (.tuple #[.int .i64 b, .bool (s == 1)]) := by
  obtain ⟨Y, _, _, hc⟩ := bits1 u (fun f hf => by
    simp only [List.mem_cons, List.not_mem_nil, or_false] at hf
    rcases hf with rfl
    · exact h3)
  refine ⟨Y.getD 0 0, Y.getD 1 0, fun op zs r hl hag h18 h21 h22 => riN (r := r) (by omega) (by omega) hl fun c hcn => ?_⟩
  refine hc _ sl0 (ag_cap hag rfl) (hcap hcn) (tbT (tCons (by
    simp only [concs, conc]
    exact h18) (tCons (by
    simp only [concs, conc]
    exact h21) (tCons ?_ tNil)))) (9, [instB 0 1], [.i 0, .b 1]) (by simp [L_bits1])
  have e := row_conc (op := op) (zs := zs) (r := capR r c) (sla := sl0) (k := 0) (by omega)
  show Ret Try.prog 22 (@concs (nameS (iv op zs (capR r c)) sl0) E0 [.agg ((List.range 11).map fun j => a (40 + 40 * 0 + j))]) _
  rw [e]
  simp only [conc]
  exact h22

theorem bitsR2 (u : Nat → Int) (h3 : 0 ≤ u 3) : ∃ b s : Int, ∀ (op : Int) (zs : List Int) (r : Nat → Int), zs.length = 11 * 2 → Ag dnB u (iv op zs r) → Ret Try.prog 18 [.int .i64 op] (.bool (r 2 == 1)) → Ret Try.prog 21 [.int .i64 op] (.tuple #[.int .i64 (r 3), .bool (r 4 == 1)]) → Ret Try.prog 22 [argOf zs 0] (.int .i64 (r 52)) → RI 9 op zs (.tuple #[.int .i64 b, .bool (s == 1)]) := by
  obtain ⟨Y, _, _, hc⟩ := bits2 u (fun f hf => by
    simp only [List.mem_cons, List.not_mem_nil, or_false] at hf
    rcases hf with rfl
    · exact h3)
  refine ⟨Y.getD 0 0, Y.getD 1 0, fun op zs r hl hag h18 h21 h22 => riN (r := r) (by omega) (by omega) hl fun c hcn => ?_⟩
  refine hc _ sl0 (ag_cap hag rfl) (hcap hcn) (tbT (tCons (by
    simp only [concs, conc]
    exact h18) (tCons (by
    simp only [concs, conc]
    exact h21) (tCons ?_ tNil)))) (9, [instB 0 2], [.i 0, .b 1]) (by simp [L_bits2])
  have e := row_conc (op := op) (zs := zs) (r := capR r c) (sla := sl0) (k := 0) (by omega)
  show Ret Try.prog 22 (@concs (nameS (iv op zs (capR r c)) sl0) E0 [.agg ((List.range 11).map fun j => a (40 + 40 * 0 + j))]) _
  rw [e]
  simp only [conc]
  exact h22

theorem bitsR3 (u : Nat → Int) (h3 : 0 ≤ u 3) : ∃ b s : Int, ∀ (op : Int) (zs : List Int) (r : Nat → Int), zs.length = 11 * 3 → Ag dnB u (iv op zs r) → Ret Try.prog 18 [.int .i64 op] (.bool (r 2 == 1)) → Ret Try.prog 21 [.int .i64 op] (.tuple #[.int .i64 (r 3), .bool (r 4 == 1)]) → Ret Try.prog 22 [argOf zs 0] (.int .i64 (r 52)) → RI 9 op zs (.tuple #[.int .i64 b, .bool (s == 1)]) := by
  obtain ⟨Y, _, _, hc⟩ := bits3 u (fun f hf => by
    simp only [List.mem_cons, List.not_mem_nil, or_false] at hf
    rcases hf with rfl
    · exact h3)
  refine ⟨Y.getD 0 0, Y.getD 1 0, fun op zs r hl hag h18 h21 h22 => riN (r := r) (by omega) (by omega) hl fun c hcn => ?_⟩
  refine hc _ sl0 (ag_cap hag rfl) (hcap hcn) (tbT (tCons (by
    simp only [concs, conc]
    exact h18) (tCons (by
    simp only [concs, conc]
    exact h21) (tCons ?_ tNil)))) (9, [instB 0 3], [.i 0, .b 1]) (by simp [L_bits3])
  have e := row_conc (op := op) (zs := zs) (r := capR r c) (sla := sl0) (k := 0) (by omega)
  show Ret Try.prog 22 (@concs (nameS (iv op zs (capR r c)) sl0) E0 [.agg ((List.range 11).map fun j => a (40 + 40 * 0 + j))]) _
  rw [e]
  simp only [conc]
  exact h22

theorem bitsR4 (u : Nat → Int) (h3 : 0 ≤ u 3) : ∃ b s : Int, ∀ (op : Int) (zs : List Int) (r : Nat → Int), zs.length = 11 * 4 → Ag dnB u (iv op zs r) → Ret Try.prog 18 [.int .i64 op] (.bool (r 2 == 1)) → Ret Try.prog 21 [.int .i64 op] (.tuple #[.int .i64 (r 3), .bool (r 4 == 1)]) → Ret Try.prog 22 [argOf zs 0] (.int .i64 (r 52)) → RI 9 op zs (.tuple #[.int .i64 b, .bool (s == 1)]) := by
  obtain ⟨Y, _, _, hc⟩ := bits4 u (fun f hf => by
    simp only [List.mem_cons, List.not_mem_nil, or_false] at hf
    rcases hf with rfl
    · exact h3)
  refine ⟨Y.getD 0 0, Y.getD 1 0, fun op zs r hl hag h18 h21 h22 => riN (r := r) (by omega) (by omega) hl fun c hcn => ?_⟩
  refine hc _ sl0 (ag_cap hag rfl) (hcap hcn) (tbT (tCons (by
    simp only [concs, conc]
    exact h18) (tCons (by
    simp only [concs, conc]
    exact h21) (tCons ?_ tNil)))) (9, [instB 0 4], [.i 0, .b 1]) (by simp [L_bits4])
  have e := row_conc (op := op) (zs := zs) (r := capR r c) (sla := sl0) (k := 0) (by omega)
  show Ret Try.prog 22 (@concs (nameS (iv op zs (capR r c)) sl0) E0 [.agg ((List.range 11).map fun j => a (40 + 40 * 0 + j))]) _
  rw [e]
  simp only [conc]
  exact h22

theorem bitsR5 (u : Nat → Int) (h3 : 0 ≤ u 3) : ∃ b s : Int, ∀ (op : Int) (zs : List Int) (r : Nat → Int), zs.length = 11 * 5 → Ag dnB u (iv op zs r) → Ret Try.prog 18 [.int .i64 op] (.bool (r 2 == 1)) → Ret Try.prog 21 [.int .i64 op] (.tuple #[.int .i64 (r 3), .bool (r 4 == 1)]) → Ret Try.prog 22 [argOf zs 0] (.int .i64 (r 52)) → RI 9 op zs (.tuple #[.int .i64 b, .bool (s == 1)]) := by
  obtain ⟨Y, _, _, hc⟩ := bits5 u (fun f hf => by
    simp only [List.mem_cons, List.not_mem_nil, or_false] at hf
    rcases hf with rfl
    · exact h3)
  refine ⟨Y.getD 0 0, Y.getD 1 0, fun op zs r hl hag h18 h21 h22 => riN (r := r) (by omega) (by omega) hl fun c hcn => ?_⟩
  refine hc _ sl0 (ag_cap hag rfl) (hcap hcn) (tbT (tCons (by
    simp only [concs, conc]
    exact h18) (tCons (by
    simp only [concs, conc]
    exact h21) (tCons ?_ tNil)))) (9, [instB 0 5], [.i 0, .b 1]) (by simp [L_bits5])
  have e := row_conc (op := op) (zs := zs) (r := capR r c) (sla := sl0) (k := 0) (by omega)
  show Ret Try.prog 22 (@concs (nameS (iv op zs (capR r c)) sl0) E0 [.agg ((List.range 11).map fun j => a (40 + 40 * 0 + j))]) _
  rw [e]
  simp only [conc]
  exact h22

theorem bitsR6 (u : Nat → Int) (h3 : 0 ≤ u 3) : ∃ b s : Int, ∀ (op : Int) (zs : List Int) (r : Nat → Int), zs.length = 11 * 6 → Ag dnB u (iv op zs r) → Ret Try.prog 18 [.int .i64 op] (.bool (r 2 == 1)) → Ret Try.prog 21 [.int .i64 op] (.tuple #[.int .i64 (r 3), .bool (r 4 == 1)]) → Ret Try.prog 22 [argOf zs 0] (.int .i64 (r 52)) → RI 9 op zs (.tuple #[.int .i64 b, .bool (s == 1)]) := by
  obtain ⟨Y, _, _, hc⟩ := bits6 u (fun f hf => by
    simp only [List.mem_cons, List.not_mem_nil, or_false] at hf
    rcases hf with rfl
    · exact h3)
  refine ⟨Y.getD 0 0, Y.getD 1 0, fun op zs r hl hag h18 h21 h22 => riN (r := r) (by omega) (by omega) hl fun c hcn => ?_⟩
  refine hc _ sl0 (ag_cap hag rfl) (hcap hcn) (tbT (tCons (by
    simp only [concs, conc]
    exact h18) (tCons (by
    simp only [concs, conc]
    exact h21) (tCons ?_ tNil)))) (9, [instB 0 6], [.i 0, .b 1]) (by simp [L_bits6])
  have e := row_conc (op := op) (zs := zs) (r := capR r c) (sla := sl0) (k := 0) (by omega)
  show Ret Try.prog 22 (@concs (nameS (iv op zs (capR r c)) sl0) E0 [.agg ((List.range 11).map fun j => a (40 + 40 * 0 + j))]) _
  rw [e]
  simp only [conc]
  exact h22

theorem bitsR7 (u : Nat → Int) (h3 : 0 ≤ u 3) : ∃ b s : Int, ∀ (op : Int) (zs : List Int) (r : Nat → Int), zs.length = 11 * 7 → Ag dnB u (iv op zs r) → Ret Try.prog 18 [.int .i64 op] (.bool (r 2 == 1)) → Ret Try.prog 21 [.int .i64 op] (.tuple #[.int .i64 (r 3), .bool (r 4 == 1)]) → Ret Try.prog 22 [argOf zs 0] (.int .i64 (r 52)) → RI 9 op zs (.tuple #[.int .i64 b, .bool (s == 1)]) := by
  obtain ⟨Y, _, _, hc⟩ := bits7 u (fun f hf => by
    simp only [List.mem_cons, List.not_mem_nil, or_false] at hf
    rcases hf with rfl
    · exact h3)
  refine ⟨Y.getD 0 0, Y.getD 1 0, fun op zs r hl hag h18 h21 h22 => riN (r := r) (by omega) (by omega) hl fun c hcn => ?_⟩
  refine hc _ sl0 (ag_cap hag rfl) (hcap hcn) (tbT (tCons (by
    simp only [concs, conc]
    exact h18) (tCons (by
    simp only [concs, conc]
    exact h21) (tCons ?_ tNil)))) (9, [instB 0 7], [.i 0, .b 1]) (by simp [L_bits7])
  have e := row_conc (op := op) (zs := zs) (r := capR r c) (sla := sl0) (k := 0) (by omega)
  show Ret Try.prog 22 (@concs (nameS (iv op zs (capR r c)) sl0) E0 [.agg ((List.range 11).map fun j => a (40 + 40 * 0 + j))]) _
  rw [e]
  simp only [conc]
  exact h22

theorem bitsR8 (u : Nat → Int) (h3 : 0 ≤ u 3) : ∃ b s : Int, ∀ (op : Int) (zs : List Int) (r : Nat → Int), zs.length = 11 * 8 → Ag dnB u (iv op zs r) → Ret Try.prog 18 [.int .i64 op] (.bool (r 2 == 1)) → Ret Try.prog 21 [.int .i64 op] (.tuple #[.int .i64 (r 3), .bool (r 4 == 1)]) → Ret Try.prog 22 [argOf zs 0] (.int .i64 (r 52)) → RI 9 op zs (.tuple #[.int .i64 b, .bool (s == 1)]) := by
  obtain ⟨Y, _, _, hc⟩ := bits8 u (fun f hf => by
    simp only [List.mem_cons, List.not_mem_nil, or_false] at hf
    rcases hf with rfl
    · exact h3)
  refine ⟨Y.getD 0 0, Y.getD 1 0, fun op zs r hl hag h18 h21 h22 => riN (r := r) (by omega) (by omega) hl fun c hcn => ?_⟩
  refine hc _ sl0 (ag_cap hag rfl) (hcap hcn) (tbT (tCons (by
    simp only [concs, conc]
    exact h18) (tCons (by
    simp only [concs, conc]
    exact h21) (tCons ?_ tNil)))) (9, [instB 0 8], [.i 0, .b 1]) (by simp [L_bits8])
  have e := row_conc (op := op) (zs := zs) (r := capR r c) (sla := sl0) (k := 0) (by omega)
  show Ret Try.prog 22 (@concs (nameS (iv op zs (capR r c)) sl0) E0 [.agg ((List.range 11).map fun j => a (40 + 40 * 0 + j))]) _
  rw [e]
  simp only [conc]
  exact h22

theorem bitsR9 (u : Nat → Int) (h3 : 0 ≤ u 3) : ∃ b s : Int, ∀ (op : Int) (zs : List Int) (r : Nat → Int), zs.length = 11 * 9 → Ag dnB u (iv op zs r) → Ret Try.prog 18 [.int .i64 op] (.bool (r 2 == 1)) → Ret Try.prog 21 [.int .i64 op] (.tuple #[.int .i64 (r 3), .bool (r 4 == 1)]) → Ret Try.prog 22 [argOf zs 0] (.int .i64 (r 52)) → RI 9 op zs (.tuple #[.int .i64 b, .bool (s == 1)]) := by
  obtain ⟨Y, _, _, hc⟩ := bits9 u (fun f hf => by
    simp only [List.mem_cons, List.not_mem_nil, or_false] at hf
    rcases hf with rfl
    · exact h3)
  refine ⟨Y.getD 0 0, Y.getD 1 0, fun op zs r hl hag h18 h21 h22 => riN (r := r) (by omega) (by omega) hl fun c hcn => ?_⟩
  refine hc _ sl0 (ag_cap hag rfl) (hcap hcn) (tbT (tCons (by
    simp only [concs, conc]
    exact h18) (tCons (by
    simp only [concs, conc]
    exact h21) (tCons ?_ tNil)))) (9, [instB 0 9], [.i 0, .b 1]) (by simp [L_bits9])
  have e := row_conc (op := op) (zs := zs) (r := capR r c) (sla := sl0) (k := 0) (by omega)
  show Ret Try.prog 22 (@concs (nameS (iv op zs (capR r c)) sl0) E0 [.agg ((List.range 11).map fun j => a (40 + 40 * 0 + j))]) _
  rw [e]
  simp only [conc]
  exact h22

/-! Check. -/

theorem chkR0 (u : Nat → Int) (h38 : u 38 = 0) : ∃ c : Int, True ∧ ∀ (op : Int) (r : Nat → Int), Ag dnK u (iv op [] r) → Ret Try.prog 18 [.int .i64 op] (.bool (r 2 == 1)) → RI 9 op [] (.tuple #[.int .i64 (r 5), .bool (r 6 == 1)]) → RI 8 op [] (.int .i64 c) := by
  obtain ⟨Y, _, hp, hc⟩ := chk0 u (holds1 (f := .is (.a 38) 0) h38)
  refine ⟨Y.getD 0 0, ?_, ?_⟩
  · trivial
  · intro op r hag h18 h9
    have h38' : r 38 = 0 := (hag 38 rfl).trans h38
    refine riZ (r := r) h38' fun sla hs => ?_
    exact hc _ sla hag holds_nil ⟨(tCons (by
      simp only [concs, conc]
      exact h18) tNil), gNil, oNil, mCons (me_of (fun w y hy => patE_of hs h38' hy) (by simp only [conc, concs]; rfl) h9) mNil, kNil, xNil⟩ (8, [instE], [.i 0]) (by simp [L_chk0])

theorem chkR1 (u : Nat → Int) : ∃ c : Int, (c = 0 → (u 51 = 0 ∧ (u 40 = 3 → u 71 = 0))) ∧ ∀ (op : Int) (zs : List Int) (r : Nat → Int), zs.length = 11 * 1 → Ag dnK u (iv op zs r) → Ret Try.prog 18 [.int .i64 op] (.bool (r 2 == 1)) → Ret Try.prog 20 [argOf zs 0] (.int .i64 (r 51)) → (zs.getD 0 0 = 3 → Ret Try.prog 11 [.int .i64 (zs.getD 10 0), .int .i64 (r 5), .bool (r 6 == 1)] (.tuple #[.int .i64 (r 72), .int .i64 (r 71)])) → RI 9 op zs (.tuple #[.int .i64 (r 5), .bool (r 6 == 1)]) → RI 8 op zs (.int .i64 c) := by
  obtain ⟨Y, _, hp, hc⟩ := chk1 u
  refine ⟨Y.getD 0 0, ?_, ?_⟩
  · intro h0
    unfold RofP at hp
    simp only [P_chk1, SB.eval, SX.eval, getD_c, h0, Bool.or_eq_true, Bool.and_eq_true, Bool.not_eq_true', beq_iff_eq, beq_self_eq_true, beq_eq_false_iff_ne, ne_eq] at hp
    rcases hp with hp | hp
    · cases hp
    · obtain ⟨p0, q0⟩ := hp
      exact ⟨p0, fun e => q0.resolve_left fun q => q e⟩
  · intro op zs r hl hag h18 a0 i0 h9
    refine riN (r := r) (by omega) (by omega) hl fun c hcn => ?_
    exact hc _ sl0 (ag_cap hag rfl) (hcap hcn) ⟨(tCons (by
      simp only [concs, conc]
      exact h18) (tCons (by
      have e := row_conc (op := op) (zs := zs) (r := capR r c) (sla := sl0) (k := 0) (by omega)
      show Ret Try.prog 20 (@concs (nameS (iv op zs (capR r c)) sl0) E0 [.agg ((List.range 11).map fun j => a (40 + 40 * 0 + j))]) _
      rw [e]
      simp only [conc]
      exact a0) tNil)), (gCons (fun hg => by
      simp only [SB.eval, SX.eval, beq_iff_eq] at hg
      simp only [concs, conc]
      exact i0 hg) gNil), oNil, mCons (me_of (fun w y hy => pat_of (by omega) hl hy) (by simp only [conc, concs]; rfl) h9) mNil, kNil, xNil⟩ (8, [instB 0 1], [.i 0]) (by simp [L_chk1])

theorem chkR2 (u : Nat → Int) : ∃ c : Int, (c = 0 → (u 51 = 0 ∧ (u 40 = 3 → u 71 = 0)) ∧ (u 91 = 0 ∧ (u 80 = 3 → u 111 = 0))) ∧ ∀ (op : Int) (zs : List Int) (r : Nat → Int), zs.length = 11 * 2 → Ag dnK u (iv op zs r) → Ret Try.prog 18 [.int .i64 op] (.bool (r 2 == 1)) → Ret Try.prog 20 [argOf zs 0] (.int .i64 (r 51)) → Ret Try.prog 20 [argOf zs 1] (.int .i64 (r 91)) → (zs.getD 0 0 = 3 → Ret Try.prog 11 [.int .i64 (zs.getD 10 0), .int .i64 (r 5), .bool (r 6 == 1)] (.tuple #[.int .i64 (r 72), .int .i64 (r 71)])) → (zs.getD 11 0 = 3 → Ret Try.prog 11 [.int .i64 (zs.getD 21 0), .int .i64 (r 5), .bool (r 6 == 1)] (.tuple #[.int .i64 (r 112), .int .i64 (r 111)])) → RI 9 op zs (.tuple #[.int .i64 (r 5), .bool (r 6 == 1)]) → RI 8 op zs (.int .i64 c) := by
  obtain ⟨Y, _, hp, hc⟩ := chk2 u
  refine ⟨Y.getD 0 0, ?_, ?_⟩
  · intro h0
    unfold RofP at hp
    simp only [P_chk2, SB.eval, SX.eval, getD_c, h0, Bool.or_eq_true, Bool.and_eq_true, Bool.not_eq_true', beq_iff_eq, beq_self_eq_true, beq_eq_false_iff_ne, ne_eq] at hp
    rcases hp with hp | hp
    · cases hp
    · obtain ⟨⟨p0, q0⟩, ⟨p1, q1⟩⟩ := hp
      exact ⟨⟨p0, fun e => q0.resolve_left fun q => q e⟩, ⟨p1, fun e => q1.resolve_left fun q => q e⟩⟩
  · intro op zs r hl hag h18 a0 a1 i0 i1 h9
    refine riN (r := r) (by omega) (by omega) hl fun c hcn => ?_
    exact hc _ sl0 (ag_cap hag rfl) (hcap hcn) ⟨(tCons (by
      simp only [concs, conc]
      exact h18) (tCons (by
      have e := row_conc (op := op) (zs := zs) (r := capR r c) (sla := sl0) (k := 0) (by omega)
      show Ret Try.prog 20 (@concs (nameS (iv op zs (capR r c)) sl0) E0 [.agg ((List.range 11).map fun j => a (40 + 40 * 0 + j))]) _
      rw [e]
      simp only [conc]
      exact a0) (tCons (by
      have e := row_conc (op := op) (zs := zs) (r := capR r c) (sla := sl0) (k := 1) (by omega)
      show Ret Try.prog 20 (@concs (nameS (iv op zs (capR r c)) sl0) E0 [.agg ((List.range 11).map fun j => a (40 + 40 * 1 + j))]) _
      rw [e]
      simp only [conc]
      exact a1) tNil))), (gCons (fun hg => by
      simp only [SB.eval, SX.eval, beq_iff_eq] at hg
      simp only [concs, conc]
      exact i0 hg) (gCons (fun hg => by
      simp only [SB.eval, SX.eval, beq_iff_eq] at hg
      simp only [concs, conc]
      exact i1 hg) gNil)), oNil, mCons (me_of (fun w y hy => pat_of (by omega) hl hy) (by simp only [conc, concs]; rfl) h9) mNil, kNil, xNil⟩ (8, [instB 0 2], [.i 0]) (by simp [L_chk2])

theorem chkR3 (u : Nat → Int) : ∃ c : Int, (c = 0 → (u 51 = 0 ∧ (u 40 = 3 → u 71 = 0)) ∧ (u 91 = 0 ∧ (u 80 = 3 → u 111 = 0)) ∧ (u 131 = 0 ∧ (u 120 = 3 → u 151 = 0))) ∧ ∀ (op : Int) (zs : List Int) (r : Nat → Int), zs.length = 11 * 3 → Ag dnK u (iv op zs r) → Ret Try.prog 18 [.int .i64 op] (.bool (r 2 == 1)) → Ret Try.prog 20 [argOf zs 0] (.int .i64 (r 51)) → Ret Try.prog 20 [argOf zs 1] (.int .i64 (r 91)) → Ret Try.prog 20 [argOf zs 2] (.int .i64 (r 131)) → (zs.getD 0 0 = 3 → Ret Try.prog 11 [.int .i64 (zs.getD 10 0), .int .i64 (r 5), .bool (r 6 == 1)] (.tuple #[.int .i64 (r 72), .int .i64 (r 71)])) → (zs.getD 11 0 = 3 → Ret Try.prog 11 [.int .i64 (zs.getD 21 0), .int .i64 (r 5), .bool (r 6 == 1)] (.tuple #[.int .i64 (r 112), .int .i64 (r 111)])) → (zs.getD 22 0 = 3 → Ret Try.prog 11 [.int .i64 (zs.getD 32 0), .int .i64 (r 5), .bool (r 6 == 1)] (.tuple #[.int .i64 (r 152), .int .i64 (r 151)])) → RI 9 op zs (.tuple #[.int .i64 (r 5), .bool (r 6 == 1)]) → RI 8 op zs (.int .i64 c) := by
  obtain ⟨Y, _, hp, hc⟩ := chk3 u
  refine ⟨Y.getD 0 0, ?_, ?_⟩
  · intro h0
    unfold RofP at hp
    simp only [P_chk3, SB.eval, SX.eval, getD_c, h0, Bool.or_eq_true, Bool.and_eq_true, Bool.not_eq_true', beq_iff_eq, beq_self_eq_true, beq_eq_false_iff_ne, ne_eq] at hp
    rcases hp with hp | hp
    · cases hp
    · obtain ⟨⟨p0, q0⟩, ⟨p1, q1⟩, ⟨p2, q2⟩⟩ := hp
      exact ⟨⟨p0, fun e => q0.resolve_left fun q => q e⟩, ⟨p1, fun e => q1.resolve_left fun q => q e⟩, ⟨p2, fun e => q2.resolve_left fun q => q e⟩⟩
  · intro op zs r hl hag h18 a0 a1 a2 i0 i1 i2 h9
    refine riN (r := r) (by omega) (by omega) hl fun c hcn => ?_
    exact hc _ sl0 (ag_cap hag rfl) (hcap hcn) ⟨(tCons (by
      simp only [concs, conc]
      exact h18) (tCons (by
      have e := row_conc (op := op) (zs := zs) (r := capR r c) (sla := sl0) (k := 0) (by omega)
      show Ret Try.prog 20 (@concs (nameS (iv op zs (capR r c)) sl0) E0 [.agg ((List.range 11).map fun j => a (40 + 40 * 0 + j))]) _
      rw [e]
      simp only [conc]
      exact a0) (tCons (by
      have e := row_conc (op := op) (zs := zs) (r := capR r c) (sla := sl0) (k := 1) (by omega)
      show Ret Try.prog 20 (@concs (nameS (iv op zs (capR r c)) sl0) E0 [.agg ((List.range 11).map fun j => a (40 + 40 * 1 + j))]) _
      rw [e]
      simp only [conc]
      exact a1) (tCons (by
      have e := row_conc (op := op) (zs := zs) (r := capR r c) (sla := sl0) (k := 2) (by omega)
      show Ret Try.prog 20 (@concs (nameS (iv op zs (capR r c)) sl0) E0 [.agg ((List.range 11).map fun j => a (40 + 40 * 2 + j))]) _
      rw [e]
      simp only [conc]
      exact a2) tNil)))), (gCons (fun hg => by
      simp only [SB.eval, SX.eval, beq_iff_eq] at hg
      simp only [concs, conc]
      exact i0 hg) (gCons (fun hg => by
      simp only [SB.eval, SX.eval, beq_iff_eq] at hg
      simp only [concs, conc]
      exact i1 hg) (gCons (fun hg => by
      simp only [SB.eval, SX.eval, beq_iff_eq] at hg
      simp only [concs, conc]
      exact i2 hg) gNil))), oNil, mCons (me_of (fun w y hy => pat_of (by omega) hl hy) (by simp only [conc, concs]; rfl) h9) mNil, kNil, xNil⟩ (8, [instB 0 3], [.i 0]) (by simp [L_chk3])

theorem chkR4 (u : Nat → Int) : ∃ c : Int, (c = 0 → (u 51 = 0 ∧ (u 40 = 3 → u 71 = 0)) ∧ (u 91 = 0 ∧ (u 80 = 3 → u 111 = 0)) ∧ (u 131 = 0 ∧ (u 120 = 3 → u 151 = 0)) ∧ (u 171 = 0 ∧ (u 160 = 3 → u 191 = 0))) ∧ ∀ (op : Int) (zs : List Int) (r : Nat → Int), zs.length = 11 * 4 → Ag dnK u (iv op zs r) → Ret Try.prog 18 [.int .i64 op] (.bool (r 2 == 1)) → Ret Try.prog 20 [argOf zs 0] (.int .i64 (r 51)) → Ret Try.prog 20 [argOf zs 1] (.int .i64 (r 91)) → Ret Try.prog 20 [argOf zs 2] (.int .i64 (r 131)) → Ret Try.prog 20 [argOf zs 3] (.int .i64 (r 171)) → (zs.getD 0 0 = 3 → Ret Try.prog 11 [.int .i64 (zs.getD 10 0), .int .i64 (r 5), .bool (r 6 == 1)] (.tuple #[.int .i64 (r 72), .int .i64 (r 71)])) → (zs.getD 11 0 = 3 → Ret Try.prog 11 [.int .i64 (zs.getD 21 0), .int .i64 (r 5), .bool (r 6 == 1)] (.tuple #[.int .i64 (r 112), .int .i64 (r 111)])) → (zs.getD 22 0 = 3 → Ret Try.prog 11 [.int .i64 (zs.getD 32 0), .int .i64 (r 5), .bool (r 6 == 1)] (.tuple #[.int .i64 (r 152), .int .i64 (r 151)])) → (zs.getD 33 0 = 3 → Ret Try.prog 11 [.int .i64 (zs.getD 43 0), .int .i64 (r 5), .bool (r 6 == 1)] (.tuple #[.int .i64 (r 192), .int .i64 (r 191)])) → RI 9 op zs (.tuple #[.int .i64 (r 5), .bool (r 6 == 1)]) → RI 8 op zs (.int .i64 c) := by
  obtain ⟨Y, _, hp, hc⟩ := chk4 u
  refine ⟨Y.getD 0 0, ?_, ?_⟩
  · intro h0
    unfold RofP at hp
    simp only [P_chk4, SB.eval, SX.eval, getD_c, h0, Bool.or_eq_true, Bool.and_eq_true, Bool.not_eq_true', beq_iff_eq, beq_self_eq_true, beq_eq_false_iff_ne, ne_eq] at hp
    rcases hp with hp | hp
    · cases hp
    · obtain ⟨⟨p0, q0⟩, ⟨p1, q1⟩, ⟨p2, q2⟩, ⟨p3, q3⟩⟩ := hp
      exact ⟨⟨p0, fun e => q0.resolve_left fun q => q e⟩, ⟨p1, fun e => q1.resolve_left fun q => q e⟩, ⟨p2, fun e => q2.resolve_left fun q => q e⟩, ⟨p3, fun e => q3.resolve_left fun q => q e⟩⟩
  · intro op zs r hl hag h18 a0 a1 a2 a3 i0 i1 i2 i3 h9
    refine riN (r := r) (by omega) (by omega) hl fun c hcn => ?_
    exact hc _ sl0 (ag_cap hag rfl) (hcap hcn) ⟨(tCons (by
      simp only [concs, conc]
      exact h18) (tCons (by
      have e := row_conc (op := op) (zs := zs) (r := capR r c) (sla := sl0) (k := 0) (by omega)
      show Ret Try.prog 20 (@concs (nameS (iv op zs (capR r c)) sl0) E0 [.agg ((List.range 11).map fun j => a (40 + 40 * 0 + j))]) _
      rw [e]
      simp only [conc]
      exact a0) (tCons (by
      have e := row_conc (op := op) (zs := zs) (r := capR r c) (sla := sl0) (k := 1) (by omega)
      show Ret Try.prog 20 (@concs (nameS (iv op zs (capR r c)) sl0) E0 [.agg ((List.range 11).map fun j => a (40 + 40 * 1 + j))]) _
      rw [e]
      simp only [conc]
      exact a1) (tCons (by
      have e := row_conc (op := op) (zs := zs) (r := capR r c) (sla := sl0) (k := 2) (by omega)
      show Ret Try.prog 20 (@concs (nameS (iv op zs (capR r c)) sl0) E0 [.agg ((List.range 11).map fun j => a (40 + 40 * 2 + j))]) _
      rw [e]
      simp only [conc]
      exact a2) (tCons (by
      have e := row_conc (op := op) (zs := zs) (r := capR r c) (sla := sl0) (k := 3) (by omega)
      show Ret Try.prog 20 (@concs (nameS (iv op zs (capR r c)) sl0) E0 [.agg ((List.range 11).map fun j => a (40 + 40 * 3 + j))]) _
      rw [e]
      simp only [conc]
      exact a3) tNil))))), (gCons (fun hg => by
      simp only [SB.eval, SX.eval, beq_iff_eq] at hg
      simp only [concs, conc]
      exact i0 hg) (gCons (fun hg => by
      simp only [SB.eval, SX.eval, beq_iff_eq] at hg
      simp only [concs, conc]
      exact i1 hg) (gCons (fun hg => by
      simp only [SB.eval, SX.eval, beq_iff_eq] at hg
      simp only [concs, conc]
      exact i2 hg) (gCons (fun hg => by
      simp only [SB.eval, SX.eval, beq_iff_eq] at hg
      simp only [concs, conc]
      exact i3 hg) gNil)))), oNil, mCons (me_of (fun w y hy => pat_of (by omega) hl hy) (by simp only [conc, concs]; rfl) h9) mNil, kNil, xNil⟩ (8, [instB 0 4], [.i 0]) (by simp [L_chk4])

theorem chkR5 (u : Nat → Int) : ∃ c : Int, c ≠ 0 ∧ ∀ (op : Int) (zs : List Int) (r : Nat → Int), zs.length = 11 * 5 → Ag dnK u (iv op zs r) → Ret Try.prog 18 [.int .i64 op] (.bool (r 2 == 1)) → RI 9 op zs (.tuple #[.int .i64 (r 5), .bool (r 6 == 1)]) → RI 8 op zs (.int .i64 c) := by
  obtain ⟨Y, _, hp, hc⟩ := chk5 u
  refine ⟨Y.getD 0 0, ?_, ?_⟩
  · intro h0
    unfold RofP at hp
    simp only [P_chk5, SB.eval, SX.eval, getD_c, h0, Bool.not_eq_true', beq_self_eq_true] at hp
    cases hp
  · intro op zs r hl hag h18 h9
    refine riN (r := r) (by omega) (by omega) hl fun c hcn => ?_
    exact hc _ sl0 (ag_cap hag rfl) (hcap hcn) ⟨(tCons (by
      simp only [concs, conc]
      exact h18) tNil), gNil, oNil, mCons (me_of (fun w y hy => pat_of (by omega) hl hy) (by simp only [conc, concs]; rfl) h9) mNil, kNil, xNil⟩ (8, [instB 0 5], [.i 0]) (by simp [L_chk5])

theorem chkR6 (u : Nat → Int) : ∃ c : Int, c ≠ 0 ∧ ∀ (op : Int) (zs : List Int) (r : Nat → Int), zs.length = 11 * 6 → Ag dnK u (iv op zs r) → Ret Try.prog 18 [.int .i64 op] (.bool (r 2 == 1)) → RI 9 op zs (.tuple #[.int .i64 (r 5), .bool (r 6 == 1)]) → RI 8 op zs (.int .i64 c) := by
  obtain ⟨Y, _, hp, hc⟩ := chk6 u
  refine ⟨Y.getD 0 0, ?_, ?_⟩
  · intro h0
    unfold RofP at hp
    simp only [P_chk6, SB.eval, SX.eval, getD_c, h0, Bool.not_eq_true', beq_self_eq_true] at hp
    cases hp
  · intro op zs r hl hag h18 h9
    refine riN (r := r) (by omega) (by omega) hl fun c hcn => ?_
    exact hc _ sl0 (ag_cap hag rfl) (hcap hcn) ⟨(tCons (by
      simp only [concs, conc]
      exact h18) tNil), gNil, oNil, mCons (me_of (fun w y hy => pat_of (by omega) hl hy) (by simp only [conc, concs]; rfl) h9) mNil, kNil, xNil⟩ (8, [instB 0 6], [.i 0]) (by simp [L_chk6])

theorem chkR7 (u : Nat → Int) : ∃ c : Int, c ≠ 0 ∧ ∀ (op : Int) (zs : List Int) (r : Nat → Int), zs.length = 11 * 7 → Ag dnK u (iv op zs r) → Ret Try.prog 18 [.int .i64 op] (.bool (r 2 == 1)) → RI 9 op zs (.tuple #[.int .i64 (r 5), .bool (r 6 == 1)]) → RI 8 op zs (.int .i64 c) := by
  obtain ⟨Y, _, hp, hc⟩ := chk7 u
  refine ⟨Y.getD 0 0, ?_, ?_⟩
  · intro h0
    unfold RofP at hp
    simp only [P_chk7, SB.eval, SX.eval, getD_c, h0, Bool.not_eq_true', beq_self_eq_true] at hp
    cases hp
  · intro op zs r hl hag h18 h9
    refine riN (r := r) (by omega) (by omega) hl fun c hcn => ?_
    exact hc _ sl0 (ag_cap hag rfl) (hcap hcn) ⟨(tCons (by
      simp only [concs, conc]
      exact h18) tNil), gNil, oNil, mCons (me_of (fun w y hy => pat_of (by omega) hl hy) (by simp only [conc, concs]; rfl) h9) mNil, kNil, xNil⟩ (8, [instB 0 7], [.i 0]) (by simp [L_chk7])

theorem chkR8 (u : Nat → Int) : ∃ c : Int, c ≠ 0 ∧ ∀ (op : Int) (zs : List Int) (r : Nat → Int), zs.length = 11 * 8 → Ag dnK u (iv op zs r) → Ret Try.prog 18 [.int .i64 op] (.bool (r 2 == 1)) → RI 9 op zs (.tuple #[.int .i64 (r 5), .bool (r 6 == 1)]) → RI 8 op zs (.int .i64 c) := by
  obtain ⟨Y, _, hp, hc⟩ := chk8 u
  refine ⟨Y.getD 0 0, ?_, ?_⟩
  · intro h0
    unfold RofP at hp
    simp only [P_chk8, SB.eval, SX.eval, getD_c, h0, Bool.not_eq_true', beq_self_eq_true] at hp
    cases hp
  · intro op zs r hl hag h18 h9
    refine riN (r := r) (by omega) (by omega) hl fun c hcn => ?_
    exact hc _ sl0 (ag_cap hag rfl) (hcap hcn) ⟨(tCons (by
      simp only [concs, conc]
      exact h18) tNil), gNil, oNil, mCons (me_of (fun w y hy => pat_of (by omega) hl hy) (by simp only [conc, concs]; rfl) h9) mNil, kNil, xNil⟩ (8, [instB 0 8], [.i 0]) (by simp [L_chk8])

theorem chkR9 (u : Nat → Int) : ∃ c : Int, c ≠ 0 ∧ ∀ (op : Int) (zs : List Int) (r : Nat → Int), zs.length = 11 * 9 → Ag dnK u (iv op zs r) → Ret Try.prog 18 [.int .i64 op] (.bool (r 2 == 1)) → RI 9 op zs (.tuple #[.int .i64 (r 5), .bool (r 6 == 1)]) → RI 8 op zs (.int .i64 c) := by
  obtain ⟨Y, _, hp, hc⟩ := chk9 u
  refine ⟨Y.getD 0 0, ?_, ?_⟩
  · intro h0
    unfold RofP at hp
    simp only [P_chk9, SB.eval, SX.eval, getD_c, h0, Bool.not_eq_true', beq_self_eq_true] at hp
    cases hp
  · intro op zs r hl hag h18 h9
    refine riN (r := r) (by omega) (by omega) hl fun c hcn => ?_
    exact hc _ sl0 (ag_cap hag rfl) (hcap hcn) ⟨(tCons (by
      simp only [concs, conc]
      exact h18) tNil), gNil, oNil, mCons (me_of (fun w y hy => pat_of (by omega) hl hy) (by simp only [conc, concs]; rfl) h9) mNil, kNil, xNil⟩ (8, [instB 0 9], [.i 0]) (by simp [L_chk9])

end Go.Proofs.Ytlggmhchgicjkaa.Tab
