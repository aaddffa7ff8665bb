/-
  inst.Same, and the document's, of any two instructions, by what Canon gives of each: claims.
-/
import Derived.Test.YtndiilfjeconbaaCanH
namespace Go.Proofs.Ytndiilfjeconbaa.Tab
open Go.Sim
set_option maxRecDepth 100000

/-! Forms: 0 an error (of a slice that holds something), 1 to 6 as 'f16' and 'f17' say, 7 an error (of one that holds nothing), 8 none of nil, 9 none. -/

def lenT (t : Nat) : Nat :=
  match t with
  | 6 => 3
  | 5 => 2
  | 8 => 0
  | 9 => 0
  | m => m

def okT (t : Nat) : Bool := !Nat.beq t 0 && !Nat.beq t 7

def argO (o l c b t : Nat) : AV := cond (Nat.ble t 6) (.agg [a o, .ry b (.c 0) (.a l) (.a c)]) (.agg [a o, .osl l])

def outO (k0 l t : Nat) : List (Nat × List AV) := cond (Nat.ble t 6) [(0, [.row .i64 k0 (.mul (.c 11) (.a l))])] []

def errO (e : Nat) : AV := .tup [.agg [ci 0, nilS], a e]

def upX (k : Nat) : Nat → List SX
  | 0 => []
  | n + 1 => .a k :: upX (k + 1) n

def moO (o e k t : Nat) (x : AV) : List MO :=
  match t with
  | 0 => [⟨16, [x], errO e, []⟩, ⟨17, [x], errO e, []⟩]
  | 7 => [⟨16, [x], errO e, []⟩, ⟨17, [x], errO e, []⟩]
  | 8 => [⟨16, [x], nV (a o), []⟩, ⟨17, [x], nV (a o), []⟩]
  | 9 => [⟨16, [x], eV (a o), [lB []]⟩, ⟨17, [x], nV (a o), []⟩]
  | m => [⟨16, [x], (f16 m (a o) (sxs (upX k (11 * fmLen m)))).1, (f16 m (a o) (sxs (upX k (11 * fmLen m)))).2⟩, ⟨17, [x], (f17 m (a o) (sxs (upX k (11 * fmLen m)))).1, (f17 m (a o) (sxs (upX k (11 * fmLen m)))).2⟩]

abbrev qE (x y i : Nat) : SB := .eq (.a (x + i)) (.a (y + i))

/-- Are two operands the same, cell by cell (as the code asks)? -/
def conj (x y : Nat) : SB := .and (qE x y 0) (.and (.and (qE x y 1) (qE x y 2)) (.and (.and (.and (qE x y 3) (qE x y 4)) (.and (.and (qE x y 5) (qE x y 6)) (.and (qE x y 7) (.and (qE x y 8) (qE x y 9))))) (qE x y 10)))

def allRows : Nat → Nat → SB
  | 0, _ => .eq (.a 0) (.a 1)
  | n + 1, k => .and (conj (100 + 11 * k) (200 + 11 * k)) (allRows n (k + 1))

def phiS (t u : Nat) : SB := cond (okT t && okT u && Nat.beq (lenT t) (lenT u)) (allRows (lenT t) 0) .ff

theorem conj_iff (val : Nat → Int) (x y : Nat) : (conj x y).eval val = true ↔ ∀ i, i < 11 → val (x + i) = val (y + i) := by
  simp only [conj, SB.eval, SX.eval, Bool.and_eq_true, beq_iff_eq]
  refine ⟨fun h i hi => ?_, fun h => ⟨h 0 (by omega), ⟨h 1 (by omega), h 2 (by omega)⟩, ⟨⟨h 3 (by omega), h 4 (by omega)⟩, ⟨h 5 (by omega), h 6 (by omega)⟩, h 7 (by omega), h 8 (by omega), h 9 (by omega)⟩, h 10 (by omega)⟩⟩
  have hi' : i = 0 ∨ i = 1 ∨ i = 2 ∨ i = 3 ∨ i = 4 ∨ i = 5 ∨ i = 6 ∨ i = 7 ∨ i = 8 ∨ i = 9 ∨ i = 10 := by omega
  obtain ⟨h0, ⟨h1, h2⟩, ⟨⟨h3, h4⟩, ⟨h5, h6⟩, h7, h8, h9⟩, h10⟩ := h
  rcases hi' with rfl | rfl | rfl | rfl | rfl | rfl | rfl | rfl | rfl | rfl | rfl <;> assumption

theorem allRows_iff (val : Nat → Int) : ∀ (n k : Nat), (allRows n k).eval val = true ↔ val 0 = val 1 ∧ ∀ i, 11 * k ≤ i → i < 11 * (k + n) → val (100 + i) = val (200 + i) := by
  intro n
  induction n with
  | zero =>
    intro k
    show (val 0 == val 1) = true ↔ _
    rw [beq_iff_eq]
    exact ⟨fun h => ⟨h, fun i h1 h2 => by omega⟩, fun h => h.1⟩
  | succ n ih =>
    intro k
    have e : (allRows (n + 1) k).eval val = ((conj (100 + 11 * k) (200 + 11 * k)).eval val && (allRows n (k + 1)).eval val) := rfl
    rw [e, Bool.and_eq_true, conj_iff, ih]
    refine ⟨fun ⟨h1, h2, h3⟩ => ⟨h2, fun i hi hj => ?_⟩, fun ⟨h1, h2⟩ => ⟨fun i hi => ?_, h1, fun i hi hj => h2 i (by omega) (by omega)⟩⟩
    · by_cases hk : i < 11 * (k + 1)
      · have := h1 (i - 11 * k) (by omega)
        rw [show 100 + 11 * k + (i - 11 * k) = 100 + i by omega, show 200 + 11 * k + (i - 11 * k) = 200 + i by omega] at this
        exact this
      · exact h3 i (by omega) (by omega)
    · have := h2 (11 * k + i) (by omega) (by omega)
      rw [show 100 + (11 * k + i) = 100 + 11 * k + i by omega, show 200 + (11 * k + i) = 200 + 11 * k + i by omega] at this
      exact this

noncomputable def saysB [Syms] (r : Option (AV × AS)) (phi : SB) : Bool :=
  match r with
  | some (v, _) => match asSB v with
    | some b => bAnd (plain v) (isTrue (Syms.dec (sbIff b phi)))
    | none => false
  | none => false

theorem retO_bool {val : Nat → Int} {F : List Fact} (h : Holds val F) {sla : Nat → Option Addr × Nat} {orc : Caller} {fuel : Nat} {f : FuncId} {args : List AV} {outs : List (Nat × List AV)} {phi : SB} (ho : @CallerOK (symsOf val F h sla) Try.prog orc)
    (ha : wfVs (· < outs.length) args) (hpl : outs.all plainO = true) (hg : @saysB (symsOf val F h sla) (@runO (symsOf val F h sla) Try.prog orc fuel f args outs) phi = true) : RetO Try.prog f args outs sla val (.bool (phi.eval val)) := by
  intro E w hout
  letI I := symsOf val F h sla
  rw [concs_val (I := nameS val sla) (J := symsOf val F h sla) rfl rfl]
  unfold saysB at hg
  split at hg
  · rename_i v S' hr
    split at hg
    · rename_i b hb
      obtain ⟨_, h2⟩ := bAnd_true hg
      refine (runO_sound ho mixK hr ha hpl E w (outOK_val (I := nameS val sla) (J := symsOf val F h sla) rfl rfl hout)).mono fun e w' he => ?_
      obtain ⟨E', rfl, hbw⟩ := he
      refine ⟨?_, hbw⟩
      have := Syms.decOK _ _ (isTrue_iff h2)
      rw [sbIff_eval] at this
      simp only [beq_iff_eq] at this
      rw [asSB_conc hb, this]
      rfl
    · cases hg
  · cases hg

abbrev argsS (t u : Nat) : List AV := [argO 0 2 3 0 t, argO 1 4 5 (cond (Nat.ble t 6) 1 0) u]

abbrev outsS (t u : Nat) : List (Nat × List AV) := outO 2000 2 t ++ outO 2200 4 u

abbrev tabS (t u : Nat) : List MO := moO 0 6 100 t (argO 0 2 3 0 t) ++ moO 1 7 200 u (argO 1 4 5 (cond (Nat.ble t 6) 1 0) u)

abbrev SameQ (t u : Nat) (val : Nat → Int) : Prop := ∀ sla, MTabOKO Try.prog val sla (outsS t u) (tabS t u) → RetO Try.prog 14 (argsS t u) (outsS t u) sla val (.bool ((phiS t u).eval val)) ∧ RetO Try.prog 21 (argsS t u) (outsS t u) sla val (.bool ((phiS t u).eval val))

theorem wfS {t u : Nat} : wfVs (· < (outsS t u).length) (argsS t u) := by
  simp only [outsS, argsS, outO, argO]
  cases Nat.ble t 6 <;> cases Nat.ble u 6 <;> simp [wfVs, wfV]

theorem plS {t u : Nat} : (outsS t u).all plainO = true := by
  simp only [outsS, outO]
  cases Nat.ble t 6 <;> cases Nat.ble u 6 <;> rfl

theorem leafS {t u : Nat} {val : Nat → Int} {F : List Fact} (h : Holds val F)
    (hc : ∀ sla, bAnd ((tabS t u).all (moOK Try.prog)) (bAnd (@saysB (symsOf val F h sla) (@runO (symsOf val F h sla) Try.prog (mTabO (outsS t u) (tabS t u)) 1000 14 (argsS t u) (outsS t u)) (phiS t u))
      (@saysB (symsOf val F h sla) (@runO (symsOf val F h sla) Try.prog (mTabO (outsS t u) (tabS t u)) 1000 21 (argsS t u) (outsS t u)) (phiS t u))) = true) : SameQ t u val :=
  fun sla ht => have hl := (bAnd_true (hc sla)).1; ⟨retO_bool h (mTabOKO_sound h hl ht) wfS plS (bAnd_true (bAnd_true (hc sla)).2).1, retO_bool h (mTabOKO_sound h hl ht) wfS plS (bAnd_true (bAnd_true (hc sla)).2).2⟩

end Go.Proofs.Ytndiilfjeconbaa.Tab
