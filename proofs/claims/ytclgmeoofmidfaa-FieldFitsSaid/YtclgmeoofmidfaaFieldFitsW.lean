/-
  FieldFits says true of any numbers.
-/
import Derived.Test.YtclgmeoofmidfaaFitsD1
import Derived.Test.YtclgmeoofmidfaaFitsD2
import Derived.Test.YtclgmeoofmidfaaFitsD3
import Derived.Test.YtclgmeoofmidfaaFitsD4
namespace Go.Proofs.Ytclgmeoofmidfaa.fieldFits
open Go.Sim Go.Proofs.Ytclgmeoofmidfaa.Fld Go.Proofs.Ytclgmeoofmidfaa.FitsL
set_option maxRecDepth 100000

theorem dAll (k : Nat) (h1 : 1 ≤ k) (h2 : k ≤ 64) : D k := by
  have h : k = 1 ∨ k = 2 ∨ k = 3 ∨ k = 4 ∨ k = 5 ∨ k = 6 ∨ k = 7 ∨ k = 8 ∨ k = 9 ∨ k = 10 ∨ k = 11 ∨ k = 12 ∨ k = 13 ∨ k = 14 ∨ k = 15 ∨ k = 16 ∨ k = 17 ∨ k = 18 ∨ k = 19 ∨ k = 20 ∨ k = 21 ∨ k = 22 ∨ k = 23 ∨ k = 24 ∨ k = 25 ∨ k = 26 ∨ k = 27 ∨ k = 28 ∨ k = 29 ∨ k = 30 ∨ k = 31 ∨ k = 32 ∨ k = 33 ∨ k = 34 ∨ k = 35 ∨ k = 36 ∨ k = 37 ∨ k = 38 ∨ k = 39 ∨ k = 40 ∨ k = 41 ∨ k = 42 ∨ k = 43 ∨ k = 44 ∨ k = 45 ∨ k = 46 ∨ k = 47 ∨ k = 48 ∨ k = 49 ∨ k = 50 ∨ k = 51 ∨ k = 52 ∨ k = 53 ∨ k = 54 ∨ k = 55 ∨ k = 56 ∨ k = 57 ∨ k = 58 ∨ k = 59 ∨ k = 60 ∨ k = 61 ∨ k = 62 ∨ k = 63 ∨ k = 64 := by omega
  rcases h with rfl | rfl | rfl | rfl | rfl | rfl | rfl | rfl | rfl | rfl | rfl | rfl | rfl | rfl | rfl | rfl | rfl | rfl | rfl | rfl | rfl | rfl | rfl | rfl | rfl | rfl | rfl | rfl | rfl | rfl | rfl | rfl | rfl | rfl | rfl | rfl | rfl | rfl | rfl | rfl | rfl | rfl | rfl | rfl | rfl | rfl | rfl | rfl | rfl | rfl | rfl | rfl | rfl | rfl | rfl | rfl | rfl | rfl | rfl | rfl | rfl | rfl | rfl | rfl
  · exact d1
  · exact d2
  · exact d3
  · exact d4
  · exact d5
  · exact d6
  · exact d7
  · exact d8
  · exact d9
  · exact d10
  · exact d11
  · exact d12
  · exact d13
  · exact d14
  · exact d15
  · exact d16
  · exact d17
  · exact d18
  · exact d19
  · exact d20
  · exact d21
  · exact d22
  · exact d23
  · exact d24
  · exact d25
  · exact d26
  · exact d27
  · exact d28
  · exact d29
  · exact d30
  · exact d31
  · exact d32
  · exact d33
  · exact d34
  · exact d35
  · exact d36
  · exact d37
  · exact d38
  · exact d39
  · exact d40
  · exact d41
  · exact d42
  · exact d43
  · exact d44
  · exact d45
  · exact d46
  · exact d47
  · exact d48
  · exact d49
  · exact d50
  · exact d51
  · exact d52
  · exact d53
  · exact d54
  · exact d55
  · exact d56
  · exact d57
  · exact d58
  · exact d59
  · exact d60
  · exact d61
  · exact d62
  · exact d63
  · exact d64

theorem range {n : Int} (h : (Lit.int .i64 n).wf = true) : In n := by
  have h' : (decide (IntKind.i64.min ≤ n) && decide (n ≤ IntKind.i64.max)) = true := h
  simp only [Bool.and_eq_true, decide_eq_true_eq] at h'
  exact h'

theorem pick64 (m : Int) : Ret Try.prog 25 [.int .i64 m, .int .i64 64] (.int .i64 (m % 64)) := fun w =>
  (Go.Proofs.Ytclgmeoofmidfaa.Tab.pick_any m 64 ⟨by omega, by omega⟩ w).mono fun _ _ ⟨he, hw⟩ => ⟨he, by rw [hw]; exact RowKit.Below.refl _ _⟩

theorem wrapIn {x : Int} (h : In x) : IntKind.i64.wrap x = x := by
  obtain ⟨h1, h2⟩ := h
  rw [wrapI]; omega

theorem powMono {a b : Nat} (h : a ≤ b) : (2 : Int) ^ a ≤ 2 ^ b := by
  have := Nat.pow_le_pow_right (n := 2) (by omega) h
  exact_mod_cast this

theorem fitMore {n : Int} (hn : In n) {a b : Nat} (h1 : 1 ≤ a) (h2 : a ≤ b) (h3 : b ≤ 64) (h : sgnF n a = n) : sgnF n b = n := by
  have p := (plAll n hn a h1 (by omega)).fit.1 h
  refine (plAll n hn b (by omega) h3).fit.2 ?_
  have := powMono (a := a - 1) (b := b - 1) (by omega)
  omega

theorem wideMore {n : Int} (hn : In n) {a b : Nat} (h1 : 1 ≤ a) (h2 : a ≤ b) (h3 : b ≤ 64) (h : (sgnF n a == n || lowF n a == n) = true) : (sgnF n b == n || lowF n b == n) = true := by
  simp only [Bool.or_eq_true, beq_iff_eq] at h ⊢
  rcases h with h | h
  · exact .inl (fitMore hn h1 h2 h3 h)
  · right
    refine (plAll n hn b (by omega) h3).low.2 ?_
    rcases (plAll n hn a h1 (by omega)).low.1 h with h | h
    · left; omega
    · right
      have := powMono (a := a) (b := b) (by omega)
      omega

abbrev valL (n b m : Int) (k : Nat) : Nat → Int := fun j => [n, b, m, sgnF n k, lowF n k, m % 64].getD j 0

theorem inside (n m : Int) (k : Nat) (hn : In n) (h1 : 1 ≤ k) (h2 : k ≤ 64) : Q (valL n k m k) := by
  have pl := plAll n hn k h1 h2
  have m1 : 0 ≤ m % 64 := Int.emod_nonneg _ (by omega)
  have m2 : m % 64 < 64 := Int.emod_lt_of_pos _ (by omega)
  have hx : (X k).eval (valL n k m k) = (k + m % 64 : Int) := by
    show IntKind.i64.wrap ((k : Int) + m % 64) = _
    exact wrapIn ⟨by omega, by omega⟩
  have hfw : (sgnF n k == n) = true → (sgnF n k == n || lowF n k == n) = true := fun h => by rw [h]; rfl
  refine dAll k h1 h2 (valL n k m k) (sgnF n k == lowF n k) (sgnF n k == n) (sgnF n k == n || lowF n k == n) (decide ((k : Int) + m % 64 ≤ 64)) ?_ ?_ hfw ?_ ?_
  · refine holds_cons ?_ (holds_cons (show (k : Int) = k from rfl) (holds_cons (show 0 ≤ m % 64 from m1) (holds_cons (show m % 64 ≤ 63 by omega) (holds_cons (show (sgnF n k == lowF n k) = _ from rfl) (holds_cons (show (sgnF n k == n) = _ from rfl) ?_)))))
    · by_cases hw : (k : Int) + m % 64 ≤ 64
      · rw [decide_eq_true hw]; show (X k).eval (valL n k m k) ≤ 64; rw [hx]; exact hw
      · rw [decide_eq_false hw]; show 65 ≤ (X k).eval (valL n k m k); rw [hx]; omega
    · intro f hf
      rcases List.mem_append.1 hf with hf | hf
      · cases hb : (sgnF n k == n) with
        | true => rw [hb] at hf; simp at hf
        | false =>
          rw [hb] at hf
          simp only [cond_false, List.mem_cons, List.not_mem_nil, or_false] at hf
          subst hf
          show (lowF n k == n) = _
          rw [Bool.false_or]
      · rcases List.mem_append.1 hf with hf | hf
        · cases hb : Nat.ble k 63 with
          | false => rw [hb] at hf; simp at hf
          | true =>
            rw [hb] at hf
            simp only [cond_true, List.mem_cons, List.not_mem_nil, or_false] at hf
            subst hf
            exact pl.nn (Nat.le_of_ble_eq_true hb)
        · cases hb : ((sgnF n k == lowF n k) || Nat.ble 63 k) with
          | true => rw [hb] at hf; simp at hf
          | false =>
            rw [hb] at hf
            simp only [cond_false, List.mem_cons, List.not_mem_nil, or_false] at hf
            subst hf
            simp only [Bool.or_eq_false_iff, beq_eq_false_iff_ne] at hb
            have hk : k ≤ 62 := by
              have : ¬ 63 ≤ k := fun h => by rw [Nat.ble_eq_true_of_le h] at hb; exact absurd hb.2 (by simp)
              omega
            rcases pl.diff with h | ⟨_, h⟩
            · exact absurd h hb.1
            · show IntKind.i64.wrap (lowF n k - sgnF n k) = _
              rw [h]
              have := powMono (a := k) (b := 62) hk
              have e : (sgnF n k + 2 ^ k - sgnF n k : Int) = 2 ^ k := by omega
              have h0 : (0 : Int) ≤ 2 ^ k := by exact_mod_cast Nat.zero_le (2 ^ k)
              rw [e, wrapIn ⟨by omega, by omega⟩]
              show (2 : Int) ^ k = ((2 ^ k : Nat) : Int)
              simp
  · have pick := pick64 m
    have wv : ∃ b : Nat, k ≤ b ∧ b ≤ 64 ∧ @conc (nameS (valL n k m k) sl0) E0 (W k (decide ((k : Int) + m % 64 ≤ 64))) = .int .i64 b := by
      by_cases hw : (k : Int) + m % 64 ≤ 64
      · refine ⟨k + (m % 64).toNat, by omega, by omega, ?_⟩
        rw [decide_eq_true hw]
        show Value.int .i64 ((X k).eval (valL n k m k)) = _
        rw [hx]
        congr 1
        omega
      · refine ⟨64, h2, by omega, ?_⟩
        rw [decide_eq_false hw]
        simp only [W, cond_false, conc]
        rfl
    obtain ⟨b, hb1, hb2, hbv⟩ := wv
    intro x hx
    rcases List.mem_append.1 hx with hx | hx
    · simp only [base, List.mem_cons, List.not_mem_nil, or_false] at hx
      rcases hx with rfl | rfl | rfl | rfl | rfl | rfl | rfl | rfl
      · simp only [concs, conc, SX.eval]; exact signAll n hn k h1 h2
      · simp only [concs, conc, SX.eval]; exact lowAll n hn k h1 h2
      · simp only [concs, conc, SX.eval]; exact fitsAll n hn k h1 h2
      · simp only [concs, conc, SX.eval]; exact wideAll n hn k h1 h2
      · simp only [concs, conc, SX.eval]
        have := fitsAll (sgnF n k) pl.sIn k h1 h2
        rw [pl.ss, beq_self_eq_true] at this
        exact this
      · simp only [concs, conc, SX.eval]
        have := signAll (sgnF n k) pl.sIn k h1 h2
        rw [pl.ss] at this
        exact this
      · simp only [concs, conc, SX.eval]
        have := lowAll (lowF n k) pl.lIn k h1 h2
        rw [pl.ll] at this
        exact this
      · simp only [concs, conc, SX.eval]; exact pick
    · rcases List.mem_append.1 hx with hx | hx
      · cases hf : (sgnF n k == n) with
        | false => rw [hf] at hx; simp at hx
        | true =>
          rw [hf] at hx
          simp only [cond_true, List.mem_cons, List.not_mem_nil, or_false] at hx
          subst hx
          have h := fitsAll n hn b (by omega) hb2
          rw [fitMore hn h1 hb1 hb2 (beq_iff_eq.1 hf), beq_self_eq_true] at h
          simp only [concs, hbv]
          simp only [conc, SX.eval]
          exact h
      · cases hf : (sgnF n k == n || lowF n k == n) with
        | false => rw [hf] at hx; simp at hx
        | true =>
          rw [hf] at hx
          simp only [cond_true, List.mem_cons, List.not_mem_nil, or_false] at hx
          subst hx
          have h := wideAll n hn b (by omega) hb2
          rw [wideMore hn h1 hb1 hb2 hf] at h
          simp only [concs, hbv]
          simp only [conc, SX.eval]
          exact h
  · intro he
    rw [beq_iff_eq] at he
    rw [← he, Bool.or_self]
  · rintro rfl
    rw [beq_iff_eq]
    rcases pl.diff with h | ⟨h, _⟩
    · exact h
    · omega

abbrev tabZ : List (FuncId × List AV × AV) := [(20, [a 0, a 1], .v (.int .i64 0)), (22, [a 0, a 1], .v (.int .i64 0)), (16, [a 0, a 1], bv false), (18, [a 0, a 1], bv false)]

theorem outside (n b m : Int) (h : Out b) : Q (fun j => [n, b, m].getD j 0) := by
  have ht : TabOK Try.prog (fun j => [n, b, m].getD j 0) sl0 tabZ := by
    intro x hx
    simp only [tabZ, List.mem_cons, List.not_mem_nil, or_false] at hx
    rcases hx with rfl | rfl | rfl | rfl
    · simp only [concs, conc, SX.eval]; exact signO n b h
    · simp only [concs, conc, SX.eval]; exact lowO n b h
    · simp only [concs, conc, SX.eval]; exact fitsO n b h
    · simp only [concs, conc, SX.eval]; exact wideO n b h
  rcases h with h | h
  · have hh : Holds (fun k => [n, b, m].getD k 0) [.le (.a 1) 0] := holds_cons h holds_nil
    exact leaf hh ht (by kernel_rfl) (by kernel_rfl) (by kernel_rfl)
  · have hh : Holds (fun k => [n, b, m].getD k 0) [.ge (.a 1) 65] := holds_cons h holds_nil
    exact leaf hh ht (by kernel_rfl) (by kernel_rfl) (by kernel_rfl)

theorem walk (n : Int) (hn : (Lit.int .i64 n).wf = true) (b : Int) (_ : (Lit.int .i64 b).wf = true) (m : Int) (_ : (Lit.int .i64 m).wf = true) (w : World) :
    Calls Try.prog 5 #[.int .i64 n, .int .i64 b, .int .i64 m] w fun e w' => e = .returned (.bool true) ∧ RowKit.Below w.heap.size w w' := by
  by_cases h : Out b
  · exact outside n b m h w
  · unfold Out at h
    obtain ⟨k, rfl⟩ : ∃ k : Nat, b = k := ⟨b.toNat, by omega⟩
    exact inside n m k (range hn) (by omega) (by omega) w

end Go.Proofs.Ytclgmeoofmidfaa.fieldFits
