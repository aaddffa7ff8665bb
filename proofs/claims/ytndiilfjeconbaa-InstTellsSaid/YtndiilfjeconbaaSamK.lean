/-
  What inst.Same, and the document's, give of any two instructions.
-/
import Derived.Test.YtndiilfjeconbaaInsK
import Derived.Test.YtndiilfjeconbaaSamD0
import Derived.Test.YtndiilfjeconbaaSamD1
import Derived.Test.YtndiilfjeconbaaSamD2
import Derived.Test.YtndiilfjeconbaaSamD3
namespace Go.Proofs.Ytndiilfjeconbaa.Tab
open Go.Sim
set_option maxRecDepth 100000

theorem sameT0 (u : Nat) (hu : u < 10) (val : Nat → Int) (h6 : okT 0 = false → val 6 ≠ 0) (h7 : okT u = false → val 7 ≠ 0) : SameQ 0 u val := by
  match u, hu, h7 with
  | 0, _, h7 => exact sameQ0_0 val (holds_cons (h6 rfl) (holds_cons (h7 rfl) holds_nil))
  | 1, _, _ => exact sameQ0_1 val (holds_cons (h6 rfl) holds_nil)
  | 2, _, _ => exact sameQ0_2 val (holds_cons (h6 rfl) holds_nil)
  | 3, _, _ => exact sameQ0_3 val (holds_cons (h6 rfl) holds_nil)
  | 4, _, _ => exact sameQ0_4 val (holds_cons (h6 rfl) holds_nil)
  | 5, _, _ => exact sameQ0_5 val (holds_cons (h6 rfl) holds_nil)
  | 6, _, _ => exact sameQ0_6 val (holds_cons (h6 rfl) holds_nil)
  | 7, _, h7 => exact sameQ0_7 val (holds_cons (h6 rfl) (holds_cons (h7 rfl) holds_nil))
  | 8, _, _ => exact sameQ0_8 val (holds_cons (h6 rfl) holds_nil)
  | 9, _, _ => exact sameQ0_9 val (holds_cons (h6 rfl) holds_nil)

theorem sameT1 (u : Nat) (hu : u < 10) (val : Nat → Int) (_ : okT 1 = false → val 6 ≠ 0) (h7 : okT u = false → val 7 ≠ 0) : SameQ 1 u val := by
  match u, hu, h7 with
  | 0, _, h7 => exact sameQ1_0 val (holds_cons (h7 rfl) holds_nil)
  | 1, _, _ => exact sameQ1_1 val
  | 2, _, _ => exact sameQ1_2 val
  | 3, _, _ => exact sameQ1_3 val
  | 4, _, _ => exact sameQ1_4 val
  | 5, _, _ => exact sameQ1_5 val
  | 6, _, _ => exact sameQ1_6 val
  | 7, _, h7 => exact sameQ1_7 val (holds_cons (h7 rfl) holds_nil)
  | 8, _, _ => exact sameQ1_8 val
  | 9, _, _ => exact sameQ1_9 val

theorem sameT2 (u : Nat) (hu : u < 10) (val : Nat → Int) (_ : okT 2 = false → val 6 ≠ 0) (h7 : okT u = false → val 7 ≠ 0) : SameQ 2 u val := by
  match u, hu, h7 with
  | 0, _, h7 => exact sameQ2_0 val (holds_cons (h7 rfl) holds_nil)
  | 1, _, _ => exact sameQ2_1 val
  | 2, _, _ => exact sameQ2_2 val
  | 3, _, _ => exact sameQ2_3 val
  | 4, _, _ => exact sameQ2_4 val
  | 5, _, _ => exact sameQ2_5 val
  | 6, _, _ => exact sameQ2_6 val
  | 7, _, h7 => exact sameQ2_7 val (holds_cons (h7 rfl) holds_nil)
  | 8, _, _ => exact sameQ2_8 val
  | 9, _, _ => exact sameQ2_9 val

theorem sameT3 (u : Nat) (hu : u < 10) (val : Nat → Int) (_ : okT 3 = false → val 6 ≠ 0) (h7 : okT u = false → val 7 ≠ 0) : SameQ 3 u val := by
  match u, hu, h7 with
  | 0, _, h7 => exact sameQ3_0 val (holds_cons (h7 rfl) holds_nil)
  | 1, _, _ => exact sameQ3_1 val
  | 2, _, _ => exact sameQ3_2 val
  | 3, _, _ => exact sameQ3_3 val
  | 4, _, _ => exact sameQ3_4 val
  | 5, _, _ => exact sameQ3_5 val
  | 6, _, _ => exact sameQ3_6 val
  | 7, _, h7 => exact sameQ3_7 val (holds_cons (h7 rfl) holds_nil)
  | 8, _, _ => exact sameQ3_8 val
  | 9, _, _ => exact sameQ3_9 val

theorem sameT4 (u : Nat) (hu : u < 10) (val : Nat → Int) (_ : okT 4 = false → val 6 ≠ 0) (h7 : okT u = false → val 7 ≠ 0) : SameQ 4 u val := by
  match u, hu, h7 with
  | 0, _, h7 => exact sameQ4_0 val (holds_cons (h7 rfl) holds_nil)
  | 1, _, _ => exact sameQ4_1 val
  | 2, _, _ => exact sameQ4_2 val
  | 3, _, _ => exact sameQ4_3 val
  | 4, _, _ => exact sameQ4_4 val
  | 5, _, _ => exact sameQ4_5 val
  | 6, _, _ => exact sameQ4_6 val
  | 7, _, h7 => exact sameQ4_7 val (holds_cons (h7 rfl) holds_nil)
  | 8, _, _ => exact sameQ4_8 val
  | 9, _, _ => exact sameQ4_9 val

theorem sameT5 (u : Nat) (hu : u < 10) (val : Nat → Int) (_ : okT 5 = false → val 6 ≠ 0) (h7 : okT u = false → val 7 ≠ 0) : SameQ 5 u val := by
  match u, hu, h7 with
  | 0, _, h7 => exact sameQ5_0 val (holds_cons (h7 rfl) holds_nil)
  | 1, _, _ => exact sameQ5_1 val
  | 2, _, _ => exact sameQ5_2 val
  | 3, _, _ => exact sameQ5_3 val
  | 4, _, _ => exact sameQ5_4 val
  | 5, _, _ => exact sameQ5_5 val
  | 6, _, _ => exact sameQ5_6 val
  | 7, _, h7 => exact sameQ5_7 val (holds_cons (h7 rfl) holds_nil)
  | 8, _, _ => exact sameQ5_8 val
  | 9, _, _ => exact sameQ5_9 val

theorem sameT6 (u : Nat) (hu : u < 10) (val : Nat → Int) (_ : okT 6 = false → val 6 ≠ 0) (h7 : okT u = false → val 7 ≠ 0) : SameQ 6 u val := by
  match u, hu, h7 with
  | 0, _, h7 => exact sameQ6_0 val (holds_cons (h7 rfl) holds_nil)
  | 1, _, _ => exact sameQ6_1 val
  | 2, _, _ => exact sameQ6_2 val
  | 3, _, _ => exact sameQ6_3 val
  | 4, _, _ => exact sameQ6_4 val
  | 5, _, _ => exact sameQ6_5 val
  | 6, _, _ => exact sameQ6_6 val
  | 7, _, h7 => exact sameQ6_7 val (holds_cons (h7 rfl) holds_nil)
  | 8, _, _ => exact sameQ6_8 val
  | 9, _, _ => exact sameQ6_9 val

theorem sameT7 (u : Nat) (hu : u < 10) (val : Nat → Int) (h6 : okT 7 = false → val 6 ≠ 0) (h7 : okT u = false → val 7 ≠ 0) : SameQ 7 u val := by
  match u, hu, h7 with
  | 0, _, h7 => exact sameQ7_0 val (holds_cons (h6 rfl) (holds_cons (h7 rfl) holds_nil))
  | 1, _, _ => exact sameQ7_1 val (holds_cons (h6 rfl) holds_nil)
  | 2, _, _ => exact sameQ7_2 val (holds_cons (h6 rfl) holds_nil)
  | 3, _, _ => exact sameQ7_3 val (holds_cons (h6 rfl) holds_nil)
  | 4, _, _ => exact sameQ7_4 val (holds_cons (h6 rfl) holds_nil)
  | 5, _, _ => exact sameQ7_5 val (holds_cons (h6 rfl) holds_nil)
  | 6, _, _ => exact sameQ7_6 val (holds_cons (h6 rfl) holds_nil)
  | 7, _, h7 => exact sameQ7_7 val (holds_cons (h6 rfl) (holds_cons (h7 rfl) holds_nil))
  | 8, _, _ => exact sameQ7_8 val (holds_cons (h6 rfl) holds_nil)
  | 9, _, _ => exact sameQ7_9 val (holds_cons (h6 rfl) holds_nil)

theorem sameT8 (u : Nat) (hu : u < 10) (val : Nat → Int) (_ : okT 8 = false → val 6 ≠ 0) (h7 : okT u = false → val 7 ≠ 0) : SameQ 8 u val := by
  match u, hu, h7 with
  | 0, _, h7 => exact sameQ8_0 val (holds_cons (h7 rfl) holds_nil)
  | 1, _, _ => exact sameQ8_1 val
  | 2, _, _ => exact sameQ8_2 val
  | 3, _, _ => exact sameQ8_3 val
  | 4, _, _ => exact sameQ8_4 val
  | 5, _, _ => exact sameQ8_5 val
  | 6, _, _ => exact sameQ8_6 val
  | 7, _, h7 => exact sameQ8_7 val (holds_cons (h7 rfl) holds_nil)
  | 8, _, _ => exact sameQ8_8 val
  | 9, _, _ => exact sameQ8_9 val

theorem sameT9 (u : Nat) (hu : u < 10) (val : Nat → Int) (_ : okT 9 = false → val 6 ≠ 0) (h7 : okT u = false → val 7 ≠ 0) : SameQ 9 u val := by
  match u, hu, h7 with
  | 0, _, h7 => exact sameQ9_0 val (holds_cons (h7 rfl) holds_nil)
  | 1, _, _ => exact sameQ9_1 val
  | 2, _, _ => exact sameQ9_2 val
  | 3, _, _ => exact sameQ9_3 val
  | 4, _, _ => exact sameQ9_4 val
  | 5, _, _ => exact sameQ9_5 val
  | 6, _, _ => exact sameQ9_6 val
  | 7, _, h7 => exact sameQ9_7 val (holds_cons (h7 rfl) holds_nil)
  | 8, _, _ => exact sameQ9_8 val
  | 9, _, _ => exact sameQ9_9 val

theorem sameAll (t u : Nat) (ht : t < 10) (hu : u < 10) (val : Nat → Int) (h6 : okT t = false → val 6 ≠ 0) (h7 : okT u = false → val 7 ≠ 0) : SameQ t u val := by
  match t, ht, h6 with
  | 0, _, h6 => exact sameT0 u hu val h6 h7
  | 1, _, h6 => exact sameT1 u hu val h6 h7
  | 2, _, h6 => exact sameT2 u hu val h6 h7
  | 3, _, h6 => exact sameT3 u hu val h6 h7
  | 4, _, h6 => exact sameT4 u hu val h6 h7
  | 5, _, h6 => exact sameT5 u hu val h6 h7
  | 6, _, h6 => exact sameT6 u hu val h6 h7
  | 7, _, h6 => exact sameT7 u hu val h6 h7
  | 8, _, h6 => exact sameT8 u hu val h6 h7
  | 9, _, h6 => exact sameT9 u hu val h6 h7

/-! From numbers to names. -/

theorem o_conc' {I : Syms} {op : Int} {o : Nat} (h : I.val o = op) (E : Env) : @conc I E (a o) = @conc I0 E (ko op) := by
  subst h
  simp only [conc, SX.eval]

theorem f_back {I : Syms} {f : FuncId} {vs : List Value} {w : World} {op : Int} {o : Nat} {v v' : AV} {bs bs' : List FB} (hv : ∀ E, @conc I0 E v = @conc I E v') (hl : bs.length = bs'.length)
    (hb : ∀ (k : Nat) (fb fb' : FB), bs[k]? = some fb → bs'[k]? = some fb' → fb.elem = fb'.elem ∧ fb.grown = fb'.grown ∧ fb.s = fb'.s ∧ ∀ E, @concs I0 E fb.cells = @concs I E fb'.cells) (_ : I.val o = op) (h : @SummV I0 Try.prog f vs v bs w) : @SummV I Try.prog f vs v' bs' w :=
  summV_congr hv hl hb h

theorem uV_back {I : Syms} {op : Int} {o : Nat} (h : I.val o = op) (m : Nat) (E : Env) : @conc I0 E (uV (ko op) m) = @conc I E (uV (a o) m) := by
  have := o_conc' h E
  simp only [conc, concs] at this ⊢
  rw [this]

theorem lV_back {I : Syms} {op : Int} {o : Nat} (h : I.val o = op) (m : Nat) (E : Env) : @conc I0 E (lV (ko op) m) = @conc I E (lV (a o) m) := by
  have := o_conc' h E
  simp only [conc, concs] at this ⊢
  rw [this]

theorem nV_back {I : Syms} {op : Int} {o : Nat} (h : I.val o = op) (E : Env) : @conc I0 E (nV (ko op)) = @conc I E (nV (a o)) := by
  have := o_conc' h E
  simp only [conc, concs] at this ⊢
  rw [this]

theorem eV_back {I : Syms} {op : Int} {o : Nat} (h : I.val o = op) (E : Env) : @conc I0 E (eV (ko op)) = @conc I E (eV (a o)) := by
  have := o_conc' h E
  simp only [conc, concs] at this ⊢
  rw [this]

theorem u_back {I : Syms} {f : FuncId} {vs : List Value} {w : World} {op : Int} {o m : Nat} {cells : List Int} {Ys : List SX} (h0 : I.val o = op) (hY : Ys.map (SX.eval I.val) = cells) (h : @SummV I0 Try.prog f vs (uV (ko op) m) [uB (cK cells)] w) :
    @SummV I Try.prog f vs (uV (a o) m) [uB (sxs Ys)] w := summV_congr (bs := [uB (cK cells)]) (bs' := [uB (sxs Ys)]) (uV_back h0 m) rfl (one_blk (fb := uB (cK cells)) (fb' := uB (sxs Ys)) ⟨rfl, rfl, rfl, fun E => (sxs_concs hY E).symm⟩) h

theorem l_back {I : Syms} {f : FuncId} {vs : List Value} {w : World} {op : Int} {o m : Nat} {cells : List Int} {Ys : List SX} (h0 : I.val o = op) (hY : Ys.map (SX.eval I.val) = cells) (h : @SummV I0 Try.prog f vs (lV (ko op) m) [lB (cK cells)] w) :
    @SummV I Try.prog f vs (lV (a o) m) [lB (sxs Ys)] w := summV_congr (bs := [lB (cK cells)]) (bs' := [lB (sxs Ys)]) (lV_back h0 m) rfl (one_blk (fb := lB (cK cells)) (fb' := lB (sxs Ys)) ⟨rfl, rfl, rfl, fun E => (sxs_concs hY E).symm⟩) h

theorem f16_back {I : Syms} {f : FuncId} {vs : List Value} {w : World} {op : Int} {o : Nat} {cells : List Int} {Ys : List SX} (fm : Nat) (h0 : I.val o = op) (hY : Ys.map (SX.eval I.val) = cells) (h : @SummV I0 Try.prog f vs (f16 fm (ko op) (cK cells)).1 (f16 fm (ko op) (cK cells)).2 w) :
    @SummV I Try.prog f vs (f16 fm (a o) (sxs Ys)).1 (f16 fm (a o) (sxs Ys)).2 w := by
  unfold f16 at h ⊢
  split at h
  · exact l_back h0 hY h
  · exact u_back h0 hY h
  · exact u_back h0 hY h

theorem f17_back {I : Syms} {f : FuncId} {vs : List Value} {w : World} {op : Int} {o : Nat} {cells : List Int} {Ys : List SX} (fm : Nat) (h0 : I.val o = op) (hY : Ys.map (SX.eval I.val) = cells) (h : @SummV I0 Try.prog f vs (f17 fm (ko op) (cK cells)).1 (f17 fm (ko op) (cK cells)).2 w) :
    @SummV I Try.prog f vs (f17 fm (a o) (sxs Ys)).1 (f17 fm (a o) (sxs Ys)).2 w := by
  unfold f17 at h ⊢
  split at h
  · exact l_back h0 hY h
  · exact l_back h0 hY h
  · exact u_back h0 hY h

theorem nB_back {I : Syms} {f : FuncId} {vs : List Value} {w : World} {op : Int} {o : Nat} (h0 : I.val o = op) (h : @SummV I0 Try.prog f vs (nV (ko op)) [] w) : @SummV I Try.prog f vs (nV (a o)) [] w :=
  summV_congr (nV_back h0) rfl (fun k fb fb' hk => by simp at hk) h

theorem eB_back {I : Syms} {f : FuncId} {vs : List Value} {w : World} {op : Int} {o : Nat} (h0 : I.val o = op) (h : @SummV I0 Try.prog f vs (eV (ko op)) [lB []] w) : @SummV I Try.prog f vs (eV (a o)) [lB []] w :=
  summV_congr (bs := [lB []]) (bs' := [lB []]) (eV_back h0) rfl (one_blk (fb := lB []) (fb' := lB []) ⟨rfl, rfl, rfl, fun E => by simp [concs]⟩) h

theorem upX_get : ∀ (n k i : Nat), i < n → (upX k n)[i]? = some (.a (k + i)) := by
  intro n
  induction n with
  | zero => intro k i hi; omega
  | succ n ih =>
    intro k i hi
    cases i with
    | zero => rfl
    | succ i =>
      show (upX (k + 1) n)[i]? = _
      rw [ih (k + 1) i (by omega), show k + 1 + i = k + (i + 1) by omega]

theorem upX_len : ∀ (n k : Nat), (upX k n).length = n := by
  intro n
  induction n with
  | zero => intro k; rfl
  | succ n ih => intro k; show (upX (k + 1) n).length + 1 = _; rw [ih]

theorem upX_map {val : Nat → Int} {k n : Nat} {cells : List Int} (hl : cells.length = n) (h : ∀ i, i < cells.length → val (k + i) = cells.getD i 0) : (upX k n).map (SX.eval val) = cells := by
  apply List.ext_getElem?
  intro i
  rw [List.getElem?_map]
  by_cases hi : i < n
  · rw [upX_get n k i hi, List.getElem?_eq_getElem (by omega)]
    show some (val (k + i)) = _
    rw [h i (by omega), List.getD_eq_getElem?_getD, List.getElem?_eq_getElem (by omega)]
    rfl
  · rw [List.getElem?_eq_none (by rw [upX_len]; omega), List.getElem?_eq_none (by omega)]
    rfl

/-! What Canon gives, once more. -/

def CanD (op : Int) (zs : List Int) (n : Nat) (R : Option (List Int)) : Prop :=
  (R = none ∧ ∃ e, e ≠ 0 ∧ RI 16 op zs (errK e) ∧ RI 17 op zs (errK e)) ∨ (R = some [] ∧ n = 0 ∧ CanZ op) ∨ ∃ fm cells, R = some cells ∧ 1 ≤ n ∧ n ≤ 4 ∧ fmB n fm = true ∧ CanR fm op zs cells

theorem fmB_bounds {n fm : Nat} (h1 : 1 ≤ n) (h4 : n ≤ 4) (h : fmB n fm = true) : 1 ≤ fm ∧ fm ≤ 6 := by
  unfold fmB at h
  simp only [Bool.or_eq_true, Bool.and_eq_true] at h
  rcases h with h | ⟨_, h | h⟩ <;> have := Nat.eq_of_beq_eq_true h <;> omega

/-- A form. -/
def Tok (op : Int) (zs : List Int) (n : Nat) (R : Option (List Int)) (x : Value) (t : Nat) (e : Int) (cells : List Int) : Prop :=
  (t = 0 ∧ R = none ∧ 0 < n ∧ e ≠ 0 ∧ RI 16 op zs (errK e) ∧ RI 17 op zs (errK e) ∧ cells = []) ∨
  (t = 7 ∧ R = none ∧ zs = [] ∧ e ≠ 0 ∧ RI 16 op zs (errK e) ∧ RI 17 op zs (errK e) ∧ cells = []) ∨
  (t = 8 ∧ R = some [] ∧ cells = [] ∧ zs = [] ∧ x = .slice none 0 0 ∧ CanZ op) ∨
  (t = 9 ∧ R = some [] ∧ cells = [] ∧ zs = [] ∧ (∃ ad cap, x = .slice (some ad) 0 cap) ∧ CanZ op) ∨
  ((1 ≤ t ∧ t ≤ 6) ∧ 0 < n ∧ R = some cells ∧ CanR t op zs cells)

theorem tok_of {op : Int} {zs : List Int} {n : Nat} {R : Option (List Int)} {w : World} {x : Value} (hl : zs.length = 11 * n) (h : CanD op zs n R) (hx : SliV w x zs) : ∃ t e cells, t < 10 ∧ Tok op zs n R x t e cells := by
  rcases h with ⟨rfl, e, he, h1, h2⟩ | ⟨rfl, rfl, hz⟩ | ⟨fm, cells, rfl, h1, h4, hf, hc⟩
  · by_cases hn : n = 0
    · subst hn
      exact ⟨7, e, [], by omega, .inr (.inl ⟨rfl, rfl, by simpa using hl, he, h1, h2, rfl⟩)⟩
    · exact ⟨0, e, [], by omega, .inl ⟨rfl, rfl, by omega, he, h1, h2, rfl⟩⟩
  · have h0 : zs = [] := by simpa using hl
    subst h0
    rcases hx with ⟨_, rfl | ⟨ad, cap, rfl⟩⟩ | ⟨b, off, len, cap, g0, _, g2, _⟩
    · exact ⟨8, 0, [], by omega, .inr (.inr (.inl ⟨rfl, rfl, rfl, rfl, rfl, hz⟩))⟩
    · exact ⟨9, 0, [], by omega, .inr (.inr (.inr (.inl ⟨rfl, rfl, rfl, rfl, ⟨ad, cap, rfl⟩, hz⟩)))⟩
    · simp at g2; omega
  · have := fmB_bounds h1 h4 hf
    exact ⟨fm, 0, cells, by omega, .inr (.inr (.inr (.inr ⟨this, by omega, rfl, hc⟩)))⟩

theorem tok_props {op : Int} {zs : List Int} {n : Nat} {R : Option (List Int)} {x : Value} {t : Nat} {e : Int} {cells : List Int} (h : Tok op zs n R x t e cells) :
    (okT t = false → e ≠ 0) ∧ (t ≤ 6 → 0 < n) ∧ (7 ≤ t → zs = []) ∧ ((okT t = true ∧ R = some cells ∧ cells.length = 11 * lenT t) ∨ (okT t = false ∧ R = none ∧ cells = [])) := by
  rcases h with ⟨rfl, h1, h2, h3, _, _, h6⟩ | ⟨rfl, h1, h2, h3, _, _, h6⟩ | ⟨rfl, h1, h2, h3, _⟩ | ⟨rfl, h1, h2, h3, _⟩ | ⟨h1, h2, h3, h4⟩
  · exact ⟨fun _ => h3, fun _ => h2, fun h => by omega, .inr ⟨rfl, h1, h6⟩⟩
  · exact ⟨fun _ => h3, fun h => by omega, fun _ => h2, .inr ⟨rfl, h1, h6⟩⟩
  · exact ⟨fun h => (by cases h), fun h => by omega, fun _ => h3, .inl ⟨rfl, by rw [h1, h2], by rw [h2]; rfl⟩⟩
  · exact ⟨fun h => (by cases h), fun h => by omega, fun _ => h3, .inl ⟨rfl, by rw [h1, h2], by rw [h2]; rfl⟩⟩
  · have hc := h4.1
    have ht : t = 1 ∨ t = 2 ∨ t = 3 ∨ t = 4 ∨ t = 5 ∨ t = 6 := by omega
    rcases ht with rfl | rfl | rfl | rfl | rfl | rfl <;> exact ⟨fun h => (by cases h), fun _ => h2, fun h => by omega, .inl ⟨rfl, h3, hc⟩⟩

theorem sli_nil {w w' : World} {x : Value} (h : SliV w x []) : SliV w' x [] := by
  rcases h with h | ⟨b, off, len, cap, g0, _, g2, _⟩
  · exact .inl h
  · simp at g2; omega

theorem ry_conc {val : Nat → Int} {sla : Nat → Option Addr × Nat} {E : Env} {b l c n cap : Nat} (hl : val l = n) (hc : val c = cap) : @conc (nameS val sla) E (.ry b (.c 0) (.a l) (.a c)) = .slice (some ⟨E.ρ b, E.κ b, none⟩) n cap := by
  simp only [conc, SX.eval]
  show Value.slice (some ⟨E.ρ b, E.κ b + (if val c = 0 then 0 else (0 : Int).toNat), none⟩) (val l).toNat (val c - 0).toNat = _
  rw [hl, hc]
  have : (if ((cap : Nat) : Int) = 0 then 0 else (0 : Int).toNat) = 0 := by split <;> rfl
  rw [this]
  simp

/-- A slice that is a row of what was handed in. -/
theorem row_sli {val : Nat → Int} {sla : Nat → Option Addr × Nat} {E : Env} {w : World} {outs : List (Nat × List AV)} {b k0 l n cap : Nat} {zs : List Int} (hO : @OutOK (nameS val sla) E w outs) (hb : outs[b]? = some (0, [.row .i64 k0 (.mul (.c 11) (.a l))])) (hl : val l = n)
    (hn : 0 < n) (hc : n ≤ cap) (hz : zs.length = 11 * n) (hk : ∀ i, i < 11 * n → val (k0 + i) = zs.getD i 0) : SliV w (.slice (some ⟨E.ρ b, E.κ b, none⟩) n cap) zs := by
  obtain ⟨h1, _, h3⟩ := hO b _ hb
  refine .inr ⟨E.ρ b, E.κ b, n, cap, hn, rfl, by rw [List.length_map, hz]; omega, hc, h1, fun i z hi => ?_⟩
  rw [List.getElem?_map] at hi
  have hlt : i < zs.length := by
    rcases Nat.lt_or_ge i zs.length with h | h
    · exact h
    · rw [List.getElem?_eq_none h] at hi; cases hi
  have := h3 .i64 k0 _ rfl i (by show (i : Int) < 11 * val l; rw [hl]; omega)
  have this : w.cell? ⟨E.ρ b, E.κ b + i, none⟩ = some (.int .i64 (val (k0 + i))) := this
  rw [this, hk i (by omega), List.getD_eq_getElem?_getD]
  rw [List.getElem?_eq_getElem hlt] at hi ⊢
  exact hi

/-- An argument stands for what was handed in. -/
theorem arg_conc {o l c b t n cap : Nat} {val : Nat → Int} {sla : Nat → Option Addr × Nat} {E : Env} {op : Int} {x : Value} (hop : val o = op) (h6 : t ≤ 6 → val l = n ∧ val c = cap ∧ x = .slice (some ⟨E.ρ b, E.κ b, none⟩) n cap) (h7 : 7 ≤ t → @conc (nameS val sla) E0 (.osl l) = x) :
    @conc (nameS val sla) E (argO o l c b t) = insV op x := by
  by_cases ht : t ≤ 6
  · obtain ⟨g1, g2, g3⟩ := h6 ht
    have e1 : argO o l c b t = .agg [a o, .ry b (.c 0) (.a l) (.a c)] := by unfold argO; rw [Nat.ble_eq_true_of_le ht]; rfl
    rw [e1, show @conc (nameS val sla) E (.agg [a o, .ry b (.c 0) (.a l) (.a c)]) = .agg #[.int .i64 (val o), @conc (nameS val sla) E (.ry b (.c 0) (.a l) (.a c))] by simp only [conc, concs]; rfl, ry_conc (sla := sla) (E := E) (b := b) g1 g2, hop, g3]
  · have e1 : argO o l c b t = .agg [a o, .osl l] := by
      unfold argO
      have : Nat.ble t 6 = false := by cases hb : Nat.ble t 6 with
        | true => exact absurd (Nat.le_of_ble_eq_true hb) ht
        | false => rfl
      rw [this]; rfl
    have e3 : @conc (nameS val sla) E (.osl l) = @conc (nameS val sla) E0 (.osl l) := @plain_conc (nameS val sla) E E0 (.osl l) rfl
    rw [e1, show @conc (nameS val sla) E (.agg [a o, .osl l]) = .agg #[.int .i64 (val o), @conc (nameS val sla) E (.osl l)] by simp only [conc, concs]; rfl, e3, h7 (by omega), hop]

theorem side_ok {o l c e k k0 b t : Nat} {outs : List (Nat × List AV)} {val : Nat → Int} {sla : Nat → Option Addr × Nat} {op ev : Int} {zs cells : List Int} {n : Nat} {R : Option (List Int)} {w0 : World} {x : Value} (ht : Tok op zs n R x t ev cells) (hx : SliV w0 x zs) (hop : val o = op) (he : val e = ev)
    (hcells : ∀ i, i < cells.length → val (k + i) = cells.getD i 0)
    (hrow : t ≤ 6 → outs[b]? = some (0, [.row .i64 k0 (.mul (.c 11) (.a l))]) ∧ val l = n ∧ (∃ cap : Nat, val c = cap ∧ n ≤ cap) ∧ zs.length = 11 * n ∧ ∀ i, i < 11 * n → val (k0 + i) = zs.getD i 0)
    (hosl : 7 ≤ t → @conc (nameS val sla) E0 (.osl l) = x) : MTabOKO Try.prog val sla outs (moO o e k t (argO o l c b t)) := by
  -- the argument: the op, and a slice of the numbers
  have harg : ∀ (E : Env) (w : World), @OutOK (nameS val sla) E w outs → ∃ y, @concs (nameS val sla) E [argO o l c b t] = [insV op y] ∧ SliV w y zs ∧ (7 ≤ t → y = x) := by
    intro E w hO
    by_cases h6 : t ≤ 6
    · obtain ⟨g1, g2, ⟨cap, g3, g4⟩, g5, g6⟩ := hrow h6
      refine ⟨.slice (some ⟨E.ρ b, E.κ b, none⟩) n cap, ?_, row_sli hO g1 g2 ((tok_props ht).2.1 h6) g4 g5 g6, fun h => by omega⟩
      have e1 : argO o l c b t = .agg [a o, .ry b (.c 0) (.a l) (.a c)] := by unfold argO; rw [Nat.ble_eq_true_of_le h6]; rfl
      rw [e1]
      have e2 := ry_conc (sla := sla) (E := E) (b := b) g2 g3
      simp only [concs]
      rw [show @conc (nameS val sla) E (.agg [a o, .ry b (.c 0) (.a l) (.a c)]) = .agg #[.int .i64 (val o), @conc (nameS val sla) E (.ry b (.c 0) (.a l) (.a c))] by simp only [conc, concs]; rfl, e2, hop]
    · have h7 : 7 ≤ t := by omega
      refine ⟨x, ?_, ?_, fun _ => rfl⟩
      · have e1 : argO o l c b t = .agg [a o, .osl l] := by
          unfold argO
          have : Nat.ble t 6 = false := by cases hb : Nat.ble t 6 with
            | true => exact absurd (Nat.le_of_ble_eq_true hb) h6
            | false => rfl
          rw [this]; rfl
        rw [e1]
        have e2 := hosl h7
        have e3 : @conc (nameS val sla) E (.osl l) = @conc (nameS val sla) E0 (.osl l) := @plain_conc (nameS val sla) E E0 (.osl l) rfl
        simp only [concs]
        rw [show @conc (nameS val sla) E (.agg [a o, .osl l]) = .agg #[.int .i64 (val o), @conc (nameS val sla) E (.osl l)] by simp only [conc, concs]; rfl, e3, e2, hop]
      · have hz := (tok_props ht).2.2.1 h7
        subst hz
        exact sli_nil hx
  have herr : ∀ f, RI f op zs (errK ev) → RetM Try.prog f [argO o l c b t] outs sla val (errO e) [] := by
    intro f hf E w hO
    obtain ⟨y, h1, h2, _⟩ := harg E w hO
    rw [h1]
    exact @summV_plain Try.prog (nameS val sla) f _ (errO e) (errK ev) w (by simp only [errO, conc, concs]; rw [← he]; rfl) (hf w y h2)
  intro m hm
  rcases ht with ⟨rfl, h1, h2, h3, h4, h5, _⟩ | ⟨rfl, h1, h2, h3, h4, h5, _⟩ | ⟨rfl, h1, h2, h3, h4, h5⟩ | ⟨rfl, h1, h2, h3, ⟨ad, cap, h4⟩, h5⟩ | ⟨h1, h2, h3, h4⟩
  · simp only [moO, List.mem_cons, List.not_mem_nil, or_false] at hm
    rcases hm with rfl | rfl
    · exact herr 16 h4
    · exact herr 17 h5
  · simp only [moO, List.mem_cons, List.not_mem_nil, or_false] at hm
    rcases hm with rfl | rfl
    · exact herr 16 h4
    · exact herr 17 h5
  · simp only [moO, List.mem_cons, List.not_mem_nil, or_false] at hm
    rcases hm with rfl | rfl <;> intro E w hO <;> obtain ⟨y, g1, g2, g3⟩ := harg E w hO <;> simp only [] <;> rw [g1, g3 (by omega), h4]
    · exact nB_back (I := nameS val sla) hop (h5 w).1
    · exact nB_back (I := nameS val sla) hop (h5 w).2.1
  · simp only [moO, List.mem_cons, List.not_mem_nil, or_false] at hm
    rcases hm with rfl | rfl <;> intro E w hO <;> obtain ⟨y, g1, g2, g3⟩ := harg E w hO <;> simp only [] <;> rw [g1, g3 (by omega), h4]
    · exact eB_back (I := nameS val sla) hop ((h5 w).2.2 ad cap).1
    · exact nB_back (I := nameS val sla) hop ((h5 w).2.2 ad cap).2
  · have hY : (upX k (11 * fmLen t)).map (SX.eval val) = cells := upX_map h4.1 hcells
    have e1 : moO o e k t (argO o l c b t) = [⟨16, [argO o l c b t], (f16 t (a o) (sxs (upX k (11 * fmLen t)))).1, (f16 t (a o) (sxs (upX k (11 * fmLen t)))).2⟩, ⟨17, [argO o l c b t], (f17 t (a o) (sxs (upX k (11 * fmLen t)))).1, (f17 t (a o) (sxs (upX k (11 * fmLen t)))).2⟩] := by
      have h1' : t = 1 ∨ t = 2 ∨ t = 3 ∨ t = 4 ∨ t = 5 ∨ t = 6 := by omega
      rcases h1' with rfl | rfl | rfl | rfl | rfl | rfl <;> rfl
    rw [e1] at hm
    simp only [List.mem_cons, List.not_mem_nil, or_false] at hm
    rcases hm with rfl | rfl <;> intro E w hO <;> obtain ⟨y, g1, g2, _⟩ := harg E w hO <;> simp only [] <;> rw [g1]
    · exact f16_back (I := nameS val sla) t hop hY (h4.2 w y g2).1
    · exact f17_back (I := nameS val sla) t hop hY (h4.2 w y g2).2

/-- What Same says of two instructions. -/
def SameR (op1 : Int) (zs1 : List Int) (op2 : Int) (zs2 : List Int) (p : Bool) : Prop := ∀ w x y, SliV w x zs1 → SliV w y zs2 →
  (Calls Try.prog 14 #[insV op1 x, insV op2 y] w fun e w' => e = .returned (.bool p) ∧ RowKit.Below w.heap.size w w') ∧ Calls Try.prog 21 #[insV op1 x, insV op2 y] w fun e w' => e = .returned (.bool p) ∧ RowKit.Below w.heap.size w w'

abbrev valS (op1 op2 n1 c1 n2 c2 e1 e2 : Int) (q1 q2 zs1 zs2 : List Int) : Nat → Int := fun k =>
  if k < 100 then [op1, op2, n1, c1, n2, c2, e1, e2].getD k 0 else if k < 200 then q1.getD (k - 100) 0 else if k < 2000 then q2.getD (k - 200) 0 else if k < 2200 then zs1.getD (k - 2000) 0 else zs2.getD (k - 2200) 0

/-- Where a slice lies. -/
theorem where_of {w : World} {x : Value} {zs : List Int} {n : Nat} (hl : zs.length = 11 * n) (hx : SliV w x zs) : ∃ (b off cap : Nat) (s : Option Addr × Nat), n ≤ cap ∧ (0 < n → x = .slice (some ⟨b, off, none⟩) n cap ∧ b < w.heap.size ∧ ∀ (i : Nat) (z : Value), (zs.map (Value.int .i64))[i]? = some z → w.cell? ⟨b, off + i, none⟩ = some z) ∧
    (n = 0 → x = .slice s.1 0 s.2) := by
  by_cases hn : n = 0
  · subst hn
    have h0 : zs = [] := by simpa using hl
    subst h0
    rcases hx with ⟨_, rfl | ⟨ad, cap, rfl⟩⟩ | ⟨b, off, len, cap, g0, _, g2, _⟩
    · exact ⟨0, 0, 0, (none, 0), Nat.le_refl _, fun h => by omega, fun _ => rfl⟩
    · exact ⟨0, 0, 0, (some ad, cap), Nat.le_refl _, fun h => by omega, fun _ => rfl⟩
    · simp at g2; omega
  · obtain ⟨b, off, cap, h1, h2, h3, h4⟩ := sli_pos (by omega) hl hx
    exact ⟨b, off, cap, (none, 0), h2, fun _ => ⟨h1, h3, h4⟩, fun h => absurd h hn⟩

theorem row_out {val : Nat → Int} {sla : Nat → Option Addr × Nat} {E : Env} {w : World} {b k0 l n : Nat} {zs : List Int} (hl : val l = n) (hz : zs.length = 11 * n) (hk : ∀ i, i < 11 * n → val (k0 + i) = zs.getD i 0) (hb : E.ρ b < w.heap.size)
    (hc : ∀ (i : Nat) (z : Value), (zs.map (Value.int .i64))[i]? = some z → w.cell? ⟨E.ρ b, E.κ b + i, none⟩ = some z) {o : Nat × List AV} (ho : o = (0, [.row .i64 k0 (.mul (.c 11) (.a l))])) :
    E.ρ b < w.heap.size ∧ (o.1 ≠ 0 → ∀ (i : Nat) (v : AV), o.2[i]? = some v → w.cell? ⟨E.ρ b, E.κ b + i, none⟩ = some (@conc (nameS val sla) E v)) ∧ ∀ ki k1 n1, o = (0, [.row ki k1 n1]) → @RowOK (nameS val sla) E w b ki k1 n1 := by
  subst ho
  refine ⟨hb, fun h => absurd rfl h, fun ki k1 n1 he i hi => ?_⟩
  simp only [Prod.mk.injEq, List.cons.injEq, AV.row.injEq, and_true, true_and] at he
  obtain ⟨rfl, rfl, rfl⟩ := he
  have hi : (i : Int) < 11 * val l := hi
  rw [hl] at hi
  have hlt : i < zs.length := by omega
  show w.cell? _ = some (.int .i64 (val (k0 + i)))
  rw [hk i (by omega)]
  apply hc i
  rw [List.getElem?_map, List.getElem?_eq_getElem hlt, List.getD_eq_getElem?_getD, List.getElem?_eq_getElem hlt]
  rfl

theorem same_of {op1 op2 : Int} {zs1 zs2 : List Int} {n1 n2 : Nat} {R1 R2 : Option (List Int)} (hl1 : zs1.length = 11 * n1) (hl2 : zs2.length = 11 * n2) (h91 : n1 ≤ 9) (h1 : CanD op1 zs1 n1 R1) (h2 : CanD op2 zs2 n2 R2) :
    SameR op1 zs1 op2 zs2 (decide (R1.isSome = true ∧ op1 = op2 ∧ R1 = R2)) := by
  intro w x y hx hy
  obtain ⟨t, e1, q1, ht10, ht⟩ := tok_of hl1 h1 hx
  obtain ⟨u, e2, q2, hu10, hu⟩ := tok_of hl2 h2 hy
  obtain ⟨b1, f1, c1, s1, hc1, hr1, ho1⟩ := where_of hl1 hx
  obtain ⟨b2, f2, c2, s2, hc2, hr2, ho2⟩ := where_of hl2 hy
  obtain ⟨pt1, pt2, pt3, pt4⟩ := tok_props ht
  obtain ⟨pu1, pu2, pu3, pu4⟩ := tok_props hu
  have len44 : ∀ t < 10, 11 * lenT t ≤ 44 ∨ okT t = false := by
    intro t ht
    have h' : t = 0 ∨ t = 1 ∨ t = 2 ∨ t = 3 ∨ t = 4 ∨ t = 5 ∨ t = 6 ∨ t = 7 ∨ t = 8 ∨ t = 9 := by omega
    rcases h' with rfl | rfl | rfl | rfl | rfl | rfl | rfl | rfl | rfl | rfl <;> first | exact .inr rfl | exact .inl (by simp [lenT])
  have lq1 : q1.length ≤ 44 := by
    rcases pt4 with ⟨h0, _, h⟩ | ⟨_, _, h⟩
    · rcases len44 t ht10 with h' | h'
      · omega
      · rw [h0] at h'; cases h'
    · rw [h]; simp
  have lq2 : q2.length ≤ 44 := by
    rcases pu4 with ⟨h0, _, h⟩ | ⟨_, _, h⟩
    · rcases len44 u hu10 with h' | h'
      · omega
      · rw [h0] at h'; cases h'
    · rw [h]; simp
  obtain ⟨val, hval⟩ : ∃ val, val = valS op1 op2 n1 c1 n2 c2 e1 e2 q1 q2 zs1 zs2 := ⟨_, rfl⟩
  obtain ⟨sla, hsla⟩ : ∃ sla : Nat → Option Addr × Nat, sla = fun k => if k = 2 then s1 else s2 := ⟨_, rfl⟩
  have v0 : val 0 = op1 := by rw [hval]; rfl
  have v1 : val 1 = op2 := by rw [hval]; rfl
  have v2 : val 2 = n1 := by rw [hval]; rfl
  have v3 : val 3 = c1 := by rw [hval]; rfl
  have v4 : val 4 = n2 := by rw [hval]; rfl
  have v5 : val 5 = c2 := by rw [hval]; rfl
  have v6 : val 6 = e1 := by rw [hval]; rfl
  have v7 : val 7 = e2 := by rw [hval]; rfl
  have w1 : ∀ i, i < q1.length → val (100 + i) = q1.getD i 0 := by
    intro i hi
    rw [hval]
    show (if 100 + i < 100 then _ else if 100 + i < 200 then q1.getD (100 + i - 100) 0 else _) = _
    rw [if_neg (by omega), if_pos (by omega), show 100 + i - 100 = i by omega]
  have w2 : ∀ i, i < q2.length → val (200 + i) = q2.getD i 0 := by
    intro i hi
    rw [hval]
    show (if 200 + i < 100 then _ else if 200 + i < 200 then _ else if 200 + i < 2000 then q2.getD (200 + i - 200) 0 else _) = _
    rw [if_neg (by omega), if_neg (by omega), if_pos (by omega), show 200 + i - 200 = i by omega]
  have z1 : ∀ i, i < 11 * n1 → val (2000 + i) = zs1.getD i 0 := by
    intro i hi
    rw [hval]
    show (if 2000 + i < 100 then _ else if 2000 + i < 200 then _ else if 2000 + i < 2000 then _ else if 2000 + i < 2200 then zs1.getD (2000 + i - 2000) 0 else _) = _
    rw [if_neg (by omega), if_neg (by omega), if_neg (by omega), if_pos (by omega), show 2000 + i - 2000 = i by omega]
  have z2 : ∀ i, i < 11 * n2 → val (2200 + i) = zs2.getD i 0 := by
    intro i hi
    rw [hval]
    show (if 2200 + i < 100 then _ else if 2200 + i < 200 then _ else if 2200 + i < 2000 then _ else if 2200 + i < 2200 then _ else zs2.getD (2200 + i - 2200) 0) = _
    rw [if_neg (by omega), if_neg (by omega), if_neg (by omega), if_neg (by omega), show 2200 + i - 2200 = i by omega]
  have sl2 : sla 2 = s1 := by rw [hsla]; rfl
  have sl4 : sla 4 = s2 := by rw [hsla]; rfl
  have x7 : 7 ≤ t → @conc (nameS val sla) E0 (.osl 2) = x := by
    intro h7
    have h0 : n1 = 0 := by have := hl1; rw [pt3 h7] at this; simp only [List.length_nil] at this; omega
    rw [ho1 h0]
    simp only [conc]
    show Value.slice (sla 2).1 (val 2).toNat (sla 2).2 = _
    rw [sl2, v2, h0]
    rfl
  have y7 : 7 ≤ u → @conc (nameS val sla) E0 (.osl 4) = y := by
    intro h7
    have h0 : n2 = 0 := by have := hl2; rw [pu3 h7] at this; simp only [List.length_nil] at this; omega
    rw [ho2 h0]
    simp only [conc]
    show Value.slice (sla 4).1 (val 4).toNat (sla 4).2 = _
    rw [sl4, v4, h0]
    rfl
  have oT : t ≤ 6 → outO 2000 2 t = [(0, [.row .i64 2000 (.mul (.c 11) (.a 2))])] := fun h => by unfold outO; rw [Nat.ble_eq_true_of_le h]; rfl
  have oT' : ¬ t ≤ 6 → outO 2000 2 t = [] ∧ Nat.ble t 6 = false := fun h => by
    have : Nat.ble t 6 = false := by cases hb : Nat.ble t 6 with
      | true => exact absurd (Nat.le_of_ble_eq_true hb) h
      | false => rfl
    unfold outO; rw [this]; exact ⟨rfl, rfl⟩
  have oU : u ≤ 6 → outO 2200 4 u = [(0, [.row .i64 2200 (.mul (.c 11) (.a 4))])] := fun h => by unfold outO; rw [Nat.ble_eq_true_of_le h]; rfl
  have oU' : ¬ u ≤ 6 → outO 2200 4 u = [] := fun h => by
    have : Nat.ble u 6 = false := by cases hb : Nat.ble u 6 with
      | true => exact absurd (Nat.le_of_ble_eq_true hb) h
      | false => rfl
    unfold outO; rw [this]; rfl
  have hM : MTabOKO Try.prog val sla (outsS t u) (tabS t u) := by
    intro m hm
    rcases List.mem_append.1 hm with hm | hm
    · exact side_ok ht hx v0 v6 w1 (fun h6 => ⟨by rw [outsS, oT h6]; rfl, v2, ⟨c1, v3, hc1⟩, hl1, z1⟩) x7 m hm
    · refine side_ok hu hy v1 v7 w2 (fun h6 => ⟨?_, v4, ⟨c2, v5, hc2⟩, hl2, z2⟩) y7 m hm
      by_cases h6' : t ≤ 6
      · rw [outsS, oT h6', oU h6, Nat.ble_eq_true_of_le h6']; rfl
      · rw [outsS, (oT' h6').1, oU h6, (oT' h6').2]; rfl
  obtain ⟨r14, r21⟩ := sameAll t u ht10 hu10 val (fun h => by rw [v6]; exact pt1 h) (fun h => by rw [v7]; exact pu1 h) sla hM
  have hphi : (phiS t u).eval val = decide (R1.isSome = true ∧ op1 = op2 ∧ R1 = R2) := by
    have hA : ∀ n, (allRows n 0).eval val = decide (op1 = op2 ∧ ∀ i, i < 11 * n → val (100 + i) = val (200 + i)) := by
      intro n
      rw [Bool.eq_iff_iff, decide_eq_true_iff, allRows_iff, v0, v1]
      simp
    rcases pt4 with ⟨h0, h1', h2'⟩ | ⟨h0, h1', _⟩
    · rcases pu4 with ⟨k0, k1, k2⟩ | ⟨k0, k1, _⟩
      · subst h1' k1
        unfold phiS
        rw [h0, k0]
        by_cases hlen : lenT t = lenT u
        · have hb : Nat.beq (lenT t) (lenT u) = true := by rw [hlen]; exact Nat.beq_refl _
          rw [hb]
          show (allRows (lenT t) 0).eval val = _
          rw [hA, Bool.eq_iff_iff, decide_eq_true_iff, decide_eq_true_iff]
          refine ⟨fun ⟨g1, g2⟩ => ⟨rfl, g1, congrArg some ?_⟩, fun ⟨_, g1, g2⟩ => ⟨g1, fun i hi => ?_⟩⟩
          · apply List.ext_getElem?
            intro i
            by_cases hi : i < 11 * lenT t
            · have := g2 i hi
              rw [w1 i (by omega), w2 i (by omega), List.getD_eq_getElem?_getD, List.getD_eq_getElem?_getD] at this
              rw [List.getElem?_eq_getElem (by omega), List.getElem?_eq_getElem (by omega)] at this ⊢
              exact congrArg some this
            · rw [List.getElem?_eq_none (by omega), List.getElem?_eq_none (by omega)]
          · have g2 := Option.some.inj g2
            rw [w1 i (by omega), w2 i (by omega), g2]
        · have hb : Nat.beq (lenT t) (lenT u) = false := by
            cases hb : Nat.beq (lenT t) (lenT u) with
            | true => exact absurd (Nat.eq_of_beq_eq_true hb) hlen
            | false => rfl
          rw [hb]
          show false = _
          symm
          rw [decide_eq_false_iff_not]
          rintro ⟨_, _, g2⟩
          have g2 := congrArg List.length (Option.some.inj g2)
          omega
      · subst h1' k1
        unfold phiS
        rw [k0, Bool.and_false, Bool.false_and]
        show false = _
        symm
        rw [decide_eq_false_iff_not]
        rintro ⟨_, _, g2⟩
        cases g2
    · subst h1'
      unfold phiS
      rw [h0, Bool.false_and, Bool.false_and]
      show false = _
      symm
      rw [decide_eq_false_iff_not]
      rintro ⟨g, _⟩
      cases g
  rw [hphi] at r14 r21
  -- where the slices lie
  obtain ⟨E, hE⟩ : ∃ E : Env, E = ⟨fun b => if t ≤ 6 ∧ b = 0 then b1 else b2, fun b => if t ≤ 6 ∧ b = 0 then f1 else f2⟩ := ⟨_, rfl⟩
  have hO : @OutOK (nameS val sla) E w (outsS t u) := by
    intro k o hk
    by_cases h6 : t ≤ 6
    · rw [outsS, oT h6] at hk
      obtain ⟨g1, g2, g3⟩ := hr1 (pt2 h6)
      have a0 : E.ρ 0 = b1 ∧ E.κ 0 = f1 := by rw [hE]; exact ⟨if_pos ⟨h6, rfl⟩, if_pos ⟨h6, rfl⟩⟩
      cases k with
      | zero =>
        simp only [List.cons_append, List.nil_append, List.getElem?_cons_zero, Option.some.injEq] at hk
        exact row_out (n := n1) v2 hl1 z1 (by rw [a0.1]; exact g2) (by rw [a0.1, a0.2]; exact g3) hk.symm
      | succ k =>
        simp only [List.cons_append, List.nil_append, List.getElem?_cons_succ] at hk
        by_cases h6' : u ≤ 6
        · rw [oU h6'] at hk
          obtain ⟨g1', g2', g3'⟩ := hr2 (pu2 h6')
          cases k with
          | zero =>
            simp only [List.getElem?_cons_zero, Option.some.injEq] at hk
            have a1 : E.ρ (0 + 1) = b2 ∧ E.κ (0 + 1) = f2 := by rw [hE]; exact ⟨if_neg (by omega), if_neg (by omega)⟩
            exact row_out (n := n2) v4 hl2 z2 (by rw [a1.1]; exact g2') (by rw [a1.1, a1.2]; exact g3') hk.symm
          | succ k => simp at hk
        · rw [oU' h6'] at hk; simp at hk
    · rw [outsS, (oT' h6).1, List.nil_append] at hk
      by_cases h6' : u ≤ 6
      · rw [oU h6'] at hk
        obtain ⟨g1', g2', g3'⟩ := hr2 (pu2 h6')
        cases k with
        | zero =>
          simp only [List.getElem?_cons_zero, Option.some.injEq] at hk
          have a1 : E.ρ 0 = b2 ∧ E.κ 0 = f2 := by rw [hE]; exact ⟨if_neg (fun h => h6 h.1), if_neg (fun h => h6 h.1)⟩
          exact row_out (n := n2) v4 hl2 z2 (by rw [a1.1]; exact g2') (by rw [a1.1, a1.2]; exact g3') hk.symm
        | succ k => simp at hk
      · rw [oU' h6'] at hk; simp at hk
  have aA : @conc (nameS val sla) E (argO 0 2 3 0 t) = insV op1 x := arg_conc v0 (fun h6 => ⟨v2, v3, by
    rw [(hr1 (pt2 h6)).1, hE]
    show _ = Value.slice (some ⟨if t ≤ 6 ∧ 0 = 0 then b1 else b2, if t ≤ 6 ∧ 0 = 0 then f1 else f2, none⟩) n1 c1
    rw [if_pos ⟨h6, rfl⟩, if_pos ⟨h6, rfl⟩]⟩) x7
  have aB : @conc (nameS val sla) E (argO 1 4 5 (cond (Nat.ble t 6) 1 0) u) = insV op2 y := arg_conc v1 (fun h6 => ⟨v4, v5, by
    rw [(hr2 (pu2 h6)).1, hE]
    by_cases h6' : t ≤ 6
    · rw [Nat.ble_eq_true_of_le h6']
      show _ = Value.slice (some ⟨if t ≤ 6 ∧ 1 = 0 then b1 else b2, if t ≤ 6 ∧ 1 = 0 then f1 else f2, none⟩) n2 c2
      rw [if_neg (by omega), if_neg (by omega)]
    · rw [(oT' h6').2]
      show _ = Value.slice (some ⟨if t ≤ 6 ∧ 0 = 0 then b1 else b2, if t ≤ 6 ∧ 0 = 0 then f1 else f2, none⟩) n2 c2
      rw [if_neg (fun h => h6' h.1), if_neg (fun h => h6' h.1)]⟩) y7
  have aAB : @concs (nameS val sla) E (argsS t u) = [insV op1 x, insV op2 y] := by
    simp only [concs, aA, aB]
  have k14 := r14 E w hO
  have k21 := r21 E w hO
  rw [aAB] at k14 k21
  exact ⟨k14, k21⟩

/-- The three parts, once more. -/
theorem canD_of {op : Int} {zs : List Int} {n : Nat} (h : Con op zs n) : ∃ (b s e : Int) (R : Option (List Int)), (RI 12 op zs (.tuple #[.int .i64 b, .bool (s == 1)]) ∧ RI 18 op zs (.tuple #[.int .i64 b, .bool (s == 1)])) ∧ (RI 11 op zs (.int .i64 e) ∧ RI 19 op zs (.int .i64 e)) ∧ (e = 0 ↔ R.isSome = true) ∧ (e ≠ 0 → RI 16 op zs (errK e) ∧ RI 17 op zs (errK e)) ∧ CanD op zs n R := by
  obtain ⟨b, s, e, h1, h2, h3⟩ := h
  rcases h3 with ⟨he, k1, k2⟩ | ⟨he, hn, hz⟩ | ⟨he, k1, k4, fm, cells, hf, hc⟩
  · exact ⟨b, s, e, none, h1, h2, ⟨fun h => absurd h he, fun h => by cases h⟩, fun _ => ⟨k1, k2⟩, .inl ⟨rfl, e, he, k1, k2⟩⟩
  · exact ⟨b, s, e, some [], h1, h2, ⟨fun _ => rfl, fun _ => he⟩, fun h => absurd he h, .inr (.inl ⟨rfl, hn, hz⟩)⟩
  · exact ⟨b, s, e, some cells, h1, h2, ⟨fun _ => rfl, fun _ => he⟩, fun h => absurd he h, .inr (.inr ⟨fm, cells, rfl, k1, k4, hf, hc⟩)⟩

end Go.Proofs.Ytndiilfjeconbaa.Tab
