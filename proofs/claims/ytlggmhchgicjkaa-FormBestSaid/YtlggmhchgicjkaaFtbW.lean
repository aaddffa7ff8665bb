/-
  What fits a shape: any of the functions that tell it, and that it hangs on few cells of an operand.
-/
import Derived.Test.YtlggmhchgicjkaaShpD
import Derived.Test.YtlggmhchgicjkaaTbW
namespace Go.Proofs.Ytlggmhchgicjkaa.Tab
open Go.Sim
set_option maxRecDepth 100000

abbrev givV (z : Nat → Int) : Value := .agg ((List.range 13).map fun j => Value.int .i64 (z j)).toArray

/-- An operand with its bits and number. -/
def givE (z : Nat → Int) (b n : Int) : Nat → Int := fun k => if k < 11 then z k else if k = 11 then b else n

/-- Does it fit this shape? -/
noncomputable def fitN (s : Int) (z : Nat → Int) : Bool := (fitB.getD s.toNat .ff).eval z

def FitQ (s : Nat) (z : Nat → Int) : Prop := ∀ d, clD[s]? = some d → ∀ (w : World) (ads : List Addr), ads.length = d.ns.length → (∀ (i : Nat) (a : Addr) (n : Int), ads[i]? = some a → d.ns[i]? = some n → w.cell? a = some (.int .i64 n)) →
  Calls Try.prog d.f (givV z :: ads.map (fun a => Value.pointer (some a))).toArray w fun e' w' => e' = .returned (.bool ((fitB.getD s .ff).eval z)) ∧ RowKit.Below w.heap.size w w'

theorem giv_conc {z : Nat → Int} {sla : Nat → Option Addr × Nat} (E : Env) : @conc (nameS z sla) E giv = givV z := by
  simp only [conc, concs]
  rfl

theorem iff_eq {y : Int} {b : Bool} (h : ((!(y == 1)) || b) = true) (k : ((!b) || (y == 1)) = true) : (y == 1) = b := by
  cases b <;> cases e : (y == 1) <;> simp [e] at h k ⊢

theorem fit_plain {s f : Nat} {z : Nat → Int} {y : Int} (hd : clD[s]? = some ⟨f, []⟩) (hy : (y == 1) = (fitB.getD s .ff).eval z) (h : RetO Try.prog f [giv] [] sl0 z (.bool (y == 1))) : FitQ s z := by
  intro d hd' w ads hl _
  rw [hd] at hd'
  cases hd'
  obtain rfl : ads = [] := List.eq_nil_of_length_eq_zero hl
  have k := h E0 w (fun k o hk => by simp at hk)
  rw [hy] at k
  have e : @concs (nameS z sl0) E0 [giv] = [givV z] := by
    show [@conc (nameS z sl0) E0 giv] = _
    rw [giv_conc]
  rw [e] at k
  exact k

theorem fit_capt {s : Nat} {c n : Int} {z : Nat → Int} {y : Int} (hd : clD[s]? = some ⟨28, [c, n]⟩) (hy : (y == 1) = (fitB.getD s .ff).eval z) (h : RetO Try.prog 28 [giv, .op 0 0, .op 1 0] [(1, [ci c]), (1, [ci n])] sl0 z (.bool (y == 1))) : FitQ s z := by
  intro d hd' w ads hl hc
  rw [hd] at hd'
  cases hd'
  match ads, hl with
  | [p, q], _ =>
    have h0 := hc 0 p c rfl rfl
    have h1 := hc 1 q n rfl rfl
    obtain ⟨b0, o0, rfl, l0⟩ := cell_addr h0
    obtain ⟨b1, o1, rfl, l1⟩ := cell_addr h1
    have k := h ⟨fun k => if k = 0 then b0 else b1, fun k => if k = 0 then o0 else o1⟩ w (fun k o hk => by
      match k with
      | 0 =>
        simp only [List.getElem?_cons_zero, Option.some.injEq] at hk
        subst hk
        refine ⟨l0, fun _ i v hv => ?_, fun ki k0 m he => by simp at he⟩
        cases i with
        | zero =>
          simp only [List.getElem?_cons_zero, Option.some.injEq] at hv
          subst hv
          simp only [conc]
          exact h0
        | succ i => simp at hv
      | 1 =>
        simp only [List.getElem?_cons_succ, List.getElem?_cons_zero, Option.some.injEq] at hk
        subst hk
        refine ⟨l1, fun _ i v hv => ?_, fun ki k0 m he => by simp at he⟩
        cases i with
        | zero =>
          simp only [List.getElem?_cons_zero, Option.some.injEq] at hv
          subst hv
          simp only [conc]
          exact h1
        | succ i => simp at hv
      | k + 2 => simp at hk)
    rw [hy] at k
    have e : ∀ E : Env, E.ρ 0 = b0 → E.κ 0 = o0 → E.ρ 1 = b1 → E.κ 1 = o1 → @concs (nameS z sl0) E [giv, .op 0 0, .op 1 0] = [givV z, .pointer (some ⟨b0, o0, none⟩), .pointer (some ⟨b1, o1, none⟩)] := by
      intro E e1 e2 e3 e4
      show [@conc (nameS z sl0) E giv, @conc (nameS z sl0) E (.op 0 0), @conc (nameS z sl0) E (.op 1 0)] = _
      rw [giv_conc]
      simp only [conc, e1, e2, e3, e4]
      rfl
    rw [e _ rfl rfl rfl rfl] at k
    exact k

theorem fitQ0 (z : Nat → Int) : FitQ 0 z := by
  obtain ⟨Y, _, hp, h3⟩ := fit0 z
  have k := h3 z sl0 agR holds_nil tb0 _ (List.mem_singleton_self _)
  unfold RofP at hp
  simp only [P_fit, SB.eval, SX.eval, getD_c, Bool.and_eq_true] at hp
  exact fit_plain rfl (iff_eq hp.1 hp.2) k

theorem fitQ1 (z : Nat → Int) : FitQ 1 z := by
  obtain ⟨Y, _, hp, h3⟩ := fit1 z
  have k := h3 z sl0 agR holds_nil tb0 _ (List.mem_singleton_self _)
  unfold RofP at hp
  simp only [P_fit, SB.eval, SX.eval, getD_c, Bool.and_eq_true] at hp
  exact fit_plain rfl (iff_eq hp.1 hp.2) k

theorem fitQ2 (z : Nat → Int) : FitQ 2 z := by
  obtain ⟨Y, _, hp, h3⟩ := fit2 z
  have k := h3 z sl0 agR holds_nil tb0 _ (List.mem_singleton_self _)
  unfold RofP at hp
  simp only [P_fit, SB.eval, SX.eval, getD_c, Bool.and_eq_true] at hp
  exact fit_plain rfl (iff_eq hp.1 hp.2) k

theorem fitQ3 (z : Nat → Int) : FitQ 3 z := by
  obtain ⟨Y, _, hp, h3⟩ := fit3 z
  have k := h3 z sl0 agR holds_nil tb0 _ (List.mem_singleton_self _)
  unfold RofP at hp
  simp only [P_fit, SB.eval, SX.eval, getD_c, Bool.and_eq_true] at hp
  exact fit_plain rfl (iff_eq hp.1 hp.2) k

theorem fitQ4 (z : Nat → Int) : FitQ 4 z := by
  obtain ⟨Y, _, hp, h3⟩ := fit4 z
  have k := h3 z sl0 agR holds_nil tb0 _ (List.mem_singleton_self _)
  unfold RofP at hp
  simp only [P_fit, SB.eval, SX.eval, getD_c, Bool.and_eq_true] at hp
  exact fit_plain rfl (iff_eq hp.1 hp.2) k

theorem fitQ5 (z : Nat → Int) : FitQ 5 z := by
  obtain ⟨Y, _, hp, h3⟩ := fit5 z
  have k := h3 z sl0 agR holds_nil tb0 _ (List.mem_singleton_self _)
  unfold RofP at hp
  simp only [P_fit, SB.eval, SX.eval, getD_c, Bool.and_eq_true] at hp
  exact fit_plain rfl (iff_eq hp.1 hp.2) k

theorem fitQ6 (z : Nat → Int) : FitQ 6 z := by
  obtain ⟨Y, _, hp, h3⟩ := fit6 z
  have k := h3 z sl0 agR holds_nil tb0 _ (List.mem_singleton_self _)
  unfold RofP at hp
  simp only [P_fit, SB.eval, SX.eval, getD_c, Bool.and_eq_true] at hp
  exact fit_plain rfl (iff_eq hp.1 hp.2) k

theorem fitQ7 (z : Nat → Int) : FitQ 7 z := by
  obtain ⟨Y, _, hp, h3⟩ := fit7 z
  have k := h3 z sl0 agR holds_nil tb0 _ (List.mem_singleton_self _)
  unfold RofP at hp
  simp only [P_fit, SB.eval, SX.eval, getD_c, Bool.and_eq_true] at hp
  exact fit_plain rfl (iff_eq hp.1 hp.2) k

theorem fitQ8 (z : Nat → Int) : FitQ 8 z := by
  obtain ⟨Y, _, hp, h3⟩ := fit8 z
  have k := h3 z sl0 agR holds_nil tb0 _ (List.mem_singleton_self _)
  unfold RofP at hp
  simp only [P_fit, SB.eval, SX.eval, getD_c, Bool.and_eq_true] at hp
  exact fit_plain rfl (iff_eq hp.1 hp.2) k

theorem fitQ9 (z : Nat → Int) : FitQ 9 z := by
  obtain ⟨Y, _, hp, h3⟩ := fit9 z
  have k := h3 z sl0 agR holds_nil tb0 _ (List.mem_singleton_self _)
  unfold RofP at hp
  simp only [P_fit, SB.eval, SX.eval, getD_c, Bool.and_eq_true] at hp
  exact fit_plain rfl (iff_eq hp.1 hp.2) k

theorem fitQ10 (z : Nat → Int) : FitQ 10 z := by
  obtain ⟨Y, _, hp, h3⟩ := fit10 z
  have k := h3 z sl0 agR holds_nil tb0 _ (List.mem_singleton_self _)
  unfold RofP at hp
  simp only [P_fit, SB.eval, SX.eval, getD_c, Bool.and_eq_true] at hp
  exact fit_plain rfl (iff_eq hp.1 hp.2) k

theorem fitQ11 (z : Nat → Int) : FitQ 11 z := by
  obtain ⟨Y, _, hp, h3⟩ := fit11 z
  have k := h3 z sl0 agR holds_nil tb0 _ (List.mem_singleton_self _)
  unfold RofP at hp
  simp only [P_fit, SB.eval, SX.eval, getD_c, Bool.and_eq_true] at hp
  exact fit_plain rfl (iff_eq hp.1 hp.2) k

theorem fitQ12 (z : Nat → Int) : FitQ 12 z := by
  obtain ⟨Y, _, hp, h3⟩ := fit12 z
  have k := h3 z sl0 agR holds_nil tb0 _ (List.mem_singleton_self _)
  unfold RofP at hp
  simp only [P_fit, SB.eval, SX.eval, getD_c, Bool.and_eq_true] at hp
  exact fit_plain rfl (iff_eq hp.1 hp.2) k

theorem fitQ13 (z : Nat → Int) : FitQ 13 z := by
  obtain ⟨Y, _, hp, h3⟩ := fit13 z
  have k := h3 z sl0 agR holds_nil tb0 _ (List.mem_singleton_self _)
  unfold RofP at hp
  simp only [P_fit, SB.eval, SX.eval, getD_c, Bool.and_eq_true] at hp
  exact fit_plain rfl (iff_eq hp.1 hp.2) k

theorem fitQ14 (z : Nat → Int) : FitQ 14 z := by
  obtain ⟨Y, _, hp, h3⟩ := fit14 z
  have k := h3 z sl0 agR holds_nil tb0 _ (List.mem_singleton_self _)
  unfold RofP at hp
  simp only [P_fit, SB.eval, SX.eval, getD_c, Bool.and_eq_true] at hp
  exact fit_plain rfl (iff_eq hp.1 hp.2) k

theorem fitQ15 (z : Nat → Int) : FitQ 15 z := by
  obtain ⟨Y, _, hp, h3⟩ := fit15 z
  have k := h3 z sl0 agR holds_nil tb0 _ (List.mem_singleton_self _)
  unfold RofP at hp
  simp only [P_fit, SB.eval, SX.eval, getD_c, Bool.and_eq_true] at hp
  exact fit_plain rfl (iff_eq hp.1 hp.2) k

theorem fitQ16 (z : Nat → Int) : FitQ 16 z := by
  obtain ⟨Y, _, hp, h3⟩ := fit16 z
  have k := h3 z sl0 agR holds_nil tb0 _ (List.mem_singleton_self _)
  unfold RofP at hp
  simp only [P_fit, SB.eval, SX.eval, getD_c, Bool.and_eq_true] at hp
  exact fit_plain rfl (iff_eq hp.1 hp.2) k

theorem fitQ17 (z : Nat → Int) : FitQ 17 z := by
  obtain ⟨Y, _, hp, h3⟩ := fit17 z
  have k := h3 z sl0 agR holds_nil tb0 _ (List.mem_singleton_self _)
  unfold RofP at hp
  simp only [P_fit, SB.eval, SX.eval, getD_c, Bool.and_eq_true] at hp
  exact fit_plain rfl (iff_eq hp.1 hp.2) k

theorem fitQ18 (z : Nat → Int) : FitQ 18 z := by
  obtain ⟨Y, _, hp, h3⟩ := fit18 z
  have k := h3 z sl0 agR holds_nil tb0 _ (List.mem_singleton_self _)
  unfold RofP at hp
  simp only [P_fit, SB.eval, SX.eval, getD_c, Bool.and_eq_true] at hp
  exact fit_plain rfl (iff_eq hp.1 hp.2) k

theorem fitQ19 (z : Nat → Int) : FitQ 19 z := by
  obtain ⟨Y, _, hp, h3⟩ := fit19 z
  have k := h3 z sl0 agR holds_nil tb0 _ (List.mem_singleton_self _)
  unfold RofP at hp
  simp only [P_fit, SB.eval, SX.eval, getD_c, Bool.and_eq_true] at hp
  exact fit_plain rfl (iff_eq hp.1 hp.2) k

theorem fitQ20 (z : Nat → Int) : FitQ 20 z := by
  obtain ⟨Y, _, hp, h3⟩ := fit20 z
  have k := h3 z sl0 agR holds_nil tb0 _ (List.mem_singleton_self _)
  unfold RofP at hp
  simp only [P_fit, SB.eval, SX.eval, getD_c, Bool.and_eq_true] at hp
  exact fit_plain rfl (iff_eq hp.1 hp.2) k

theorem fitQ21 (z : Nat → Int) : FitQ 21 z := by
  obtain ⟨Y, _, hp, h3⟩ := fit21 z
  have k := h3 z sl0 agR holds_nil tb0 _ (List.mem_singleton_self _)
  unfold RofP at hp
  simp only [P_fit, SB.eval, SX.eval, getD_c, Bool.and_eq_true] at hp
  exact fit_plain rfl (iff_eq hp.1 hp.2) k

theorem fitQ22 (z : Nat → Int) : FitQ 22 z := by
  obtain ⟨Y, _, hp, h3⟩ := fit22 z
  have k := h3 z sl0 agR holds_nil tb0 _ (List.mem_singleton_self _)
  unfold RofP at hp
  simp only [P_fit, SB.eval, SX.eval, getD_c, Bool.and_eq_true] at hp
  exact fit_plain rfl (iff_eq hp.1 hp.2) k

theorem fitQ23 (z : Nat → Int) : FitQ 23 z := by
  obtain ⟨Y, _, hp, h3⟩ := fit23 z
  have k := h3 z sl0 agR holds_nil tb0 _ (List.mem_singleton_self _)
  unfold RofP at hp
  simp only [P_fit, SB.eval, SX.eval, getD_c, Bool.and_eq_true] at hp
  exact fit_plain rfl (iff_eq hp.1 hp.2) k

theorem fitQ24 (z : Nat → Int) : FitQ 24 z := by
  obtain ⟨Y, _, hp, h3⟩ := fit24 z
  have k := h3 z sl0 agR holds_nil tb0 _ (List.mem_singleton_self _)
  unfold RofP at hp
  simp only [P_fit, SB.eval, SX.eval, getD_c, Bool.and_eq_true] at hp
  exact fit_plain rfl (iff_eq hp.1 hp.2) k

theorem fitQ25 (z : Nat → Int) : FitQ 25 z := by
  obtain ⟨Y, _, hp, h3⟩ := fit25 z
  have k := h3 z sl0 agR holds_nil tb0 _ (List.mem_singleton_self _)
  unfold RofP at hp
  simp only [P_fit, SB.eval, SX.eval, getD_c, Bool.and_eq_true] at hp
  exact fit_plain rfl (iff_eq hp.1 hp.2) k

theorem fitQ26 (z : Nat → Int) : FitQ 26 z := by
  obtain ⟨Y, _, hp, h3⟩ := fit26 z
  have k := h3 z sl0 agR holds_nil tb0 _ (List.mem_singleton_self _)
  unfold RofP at hp
  simp only [P_fit, SB.eval, SX.eval, getD_c, Bool.and_eq_true] at hp
  exact fit_plain rfl (iff_eq hp.1 hp.2) k

theorem fitQ27 (z : Nat → Int) : FitQ 27 z := by
  obtain ⟨Y, _, hp, h3⟩ := fit27 z
  have k := h3 z sl0 agR holds_nil tb0 _ (List.mem_singleton_self _)
  unfold RofP at hp
  simp only [P_fit, SB.eval, SX.eval, getD_c, Bool.and_eq_true] at hp
  exact fit_plain rfl (iff_eq hp.1 hp.2) k

theorem fitQ28 (z : Nat → Int) : FitQ 28 z := by
  obtain ⟨Y, _, hp, h3⟩ := fit28 z
  have k := h3 z sl0 agR holds_nil tb0 _ (List.mem_singleton_self _)
  unfold RofP at hp
  simp only [P_fit, SB.eval, SX.eval, getD_c, Bool.and_eq_true] at hp
  exact fit_capt rfl (iff_eq hp.1 hp.2) k

theorem fitQ29 (z : Nat → Int) : FitQ 29 z := by
  obtain ⟨Y, _, hp, h3⟩ := fit29 z
  have k := h3 z sl0 agR holds_nil tb0 _ (List.mem_singleton_self _)
  unfold RofP at hp
  simp only [P_fit, SB.eval, SX.eval, getD_c, Bool.and_eq_true] at hp
  exact fit_capt rfl (iff_eq hp.1 hp.2) k

theorem fitQ30 (z : Nat → Int) : FitQ 30 z := by
  obtain ⟨Y, _, hp, h3⟩ := fit30 z
  have k := h3 z sl0 agR holds_nil tb0 _ (List.mem_singleton_self _)
  unfold RofP at hp
  simp only [P_fit, SB.eval, SX.eval, getD_c, Bool.and_eq_true] at hp
  exact fit_capt rfl (iff_eq hp.1 hp.2) k

theorem fitQ31 (z : Nat → Int) : FitQ 31 z := by
  obtain ⟨Y, _, hp, h3⟩ := fit31 z
  have k := h3 z sl0 agR holds_nil tb0 _ (List.mem_singleton_self _)
  unfold RofP at hp
  simp only [P_fit, SB.eval, SX.eval, getD_c, Bool.and_eq_true] at hp
  exact fit_capt rfl (iff_eq hp.1 hp.2) k

theorem fitQ32 (z : Nat → Int) : FitQ 32 z := by
  obtain ⟨Y, _, hp, h3⟩ := fit32 z
  have k := h3 z sl0 agR holds_nil tb0 _ (List.mem_singleton_self _)
  unfold RofP at hp
  simp only [P_fit, SB.eval, SX.eval, getD_c, Bool.and_eq_true] at hp
  exact fit_capt rfl (iff_eq hp.1 hp.2) k

theorem fitQ33 (z : Nat → Int) : FitQ 33 z := by
  obtain ⟨Y, _, hp, h3⟩ := fit33 z
  have k := h3 z sl0 agR holds_nil tb0 _ (List.mem_singleton_self _)
  unfold RofP at hp
  simp only [P_fit, SB.eval, SX.eval, getD_c, Bool.and_eq_true] at hp
  exact fit_plain rfl (iff_eq hp.1 hp.2) k

theorem fitQ34 (z : Nat → Int) : FitQ 34 z := by
  obtain ⟨Y, _, hp, h3⟩ := fit34 z
  have k := h3 z sl0 agR holds_nil tb0 _ (List.mem_singleton_self _)
  unfold RofP at hp
  simp only [P_fit, SB.eval, SX.eval, getD_c, Bool.and_eq_true] at hp
  exact fit_plain rfl (iff_eq hp.1 hp.2) k

theorem fit_any (s : Nat) (hs : s < 35) (z : Nat → Int) : FitQ s z := by
  match s, hs with
  | 0, _ => exact fitQ0 z
  | 1, _ => exact fitQ1 z
  | 2, _ => exact fitQ2 z
  | 3, _ => exact fitQ3 z
  | 4, _ => exact fitQ4 z
  | 5, _ => exact fitQ5 z
  | 6, _ => exact fitQ6 z
  | 7, _ => exact fitQ7 z
  | 8, _ => exact fitQ8 z
  | 9, _ => exact fitQ9 z
  | 10, _ => exact fitQ10 z
  | 11, _ => exact fitQ11 z
  | 12, _ => exact fitQ12 z
  | 13, _ => exact fitQ13 z
  | 14, _ => exact fitQ14 z
  | 15, _ => exact fitQ15 z
  | 16, _ => exact fitQ16 z
  | 17, _ => exact fitQ17 z
  | 18, _ => exact fitQ18 z
  | 19, _ => exact fitQ19 z
  | 20, _ => exact fitQ20 z
  | 21, _ => exact fitQ21 z
  | 22, _ => exact fitQ22 z
  | 23, _ => exact fitQ23 z
  | 24, _ => exact fitQ24 z
  | 25, _ => exact fitQ25 z
  | 26, _ => exact fitQ26 z
  | 27, _ => exact fitQ27 z
  | 28, _ => exact fitQ28 z
  | 29, _ => exact fitQ29 z
  | 30, _ => exact fitQ30 z
  | 31, _ => exact fitQ31 z
  | 32, _ => exact fitQ32 z
  | 33, _ => exact fitQ33 z
  | 34, _ => exact fitQ34 z
  | n + 35, h => omega

/-- It hangs on the kind, a register's class and number, a place's size, a branch's number, and the bits and the number in these. -/
theorem fit_congr {z y : Nat → Int} (h0 : y 0 = z 0) (h1 : z 0 = 1 → y 1 = z 1 ∧ y 2 = z 2) (h2 : z 0 = 2 → y 9 = z 9) (h4 : z 0 = 4 → y 10 = z 10) (hb : y 11 = z 11) (hn : y 12 = z 12) (s : Nat) : (fitB.getD s .ff).eval y = (fitB.getD s .ff).eval z := by
  have key : ∀ b ∈ fitB, b.eval y = b.eval z := by
    intro b hb'
    simp only [fitB, List.mem_cons, List.not_mem_nil, or_false] at hb'
    by_cases c1 : z 0 = 1
    · obtain ⟨e1, e2⟩ := h1 c1
      have b2 : (z 0 == 2) = false := beq_eq_false_iff_ne.2 (by omega)
      have b4 : (z 0 == 4) = false := beq_eq_false_iff_ne.2 (by omega)
      rcases hb' with rfl | rfl | rfl | rfl | rfl | rfl | rfl | rfl | rfl | rfl | rfl | rfl | rfl | rfl | rfl | rfl | rfl | rfl | rfl | rfl | rfl | rfl | rfl | rfl | rfl | rfl | rfl | rfl | rfl | rfl | rfl | rfl | rfl | rfl | rfl <;> simp only [SB.eval, SX.eval, h0, e1, e2, hb, hn, b2, b4, Bool.false_and] <;> congr
    · have b1 : (z 0 == 1) = false := beq_eq_false_iff_ne.2 c1
      by_cases c2 : z 0 = 2
      · have e9 := h2 c2
        have b4 : (z 0 == 4) = false := beq_eq_false_iff_ne.2 (by omega)
        rcases hb' with rfl | rfl | rfl | rfl | rfl | rfl | rfl | rfl | rfl | rfl | rfl | rfl | rfl | rfl | rfl | rfl | rfl | rfl | rfl | rfl | rfl | rfl | rfl | rfl | rfl | rfl | rfl | rfl | rfl | rfl | rfl | rfl | rfl | rfl | rfl <;> simp only [SB.eval, SX.eval, h0, e9, hb, hn, b1, b4, Bool.false_and] <;> congr
      · have b2 : (z 0 == 2) = false := beq_eq_false_iff_ne.2 c2
        by_cases c4 : z 0 = 4
        · have e10 := h4 c4
          rcases hb' with rfl | rfl | rfl | rfl | rfl | rfl | rfl | rfl | rfl | rfl | rfl | rfl | rfl | rfl | rfl | rfl | rfl | rfl | rfl | rfl | rfl | rfl | rfl | rfl | rfl | rfl | rfl | rfl | rfl | rfl | rfl | rfl | rfl | rfl | rfl <;> simp only [SB.eval, SX.eval, h0, e10, hb, hn, b1, b2, Bool.false_and] <;> congr
        · have b4 : (z 0 == 4) = false := beq_eq_false_iff_ne.2 c4
          rcases hb' with rfl | rfl | rfl | rfl | rfl | rfl | rfl | rfl | rfl | rfl | rfl | rfl | rfl | rfl | rfl | rfl | rfl | rfl | rfl | rfl | rfl | rfl | rfl | rfl | rfl | rfl | rfl | rfl | rfl | rfl | rfl | rfl | rfl | rfl | rfl <;> simp only [SB.eval, SX.eval, h0, hb, hn, b1, b2, b4, Bool.false_and] <;> congr
  rw [List.getD_eq_getElem?_getD]
  cases e : fitB[s]? with
  | none => rfl
  | some b => exact key b (List.mem_of_getElem? e)

end Go.Proofs.Ytlggmhchgicjkaa.Tab
