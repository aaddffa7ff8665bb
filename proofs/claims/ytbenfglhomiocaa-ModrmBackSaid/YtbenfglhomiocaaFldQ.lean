/-
  Bits, in plain terms: 'or' of what lies apart is the sum.
-/
import Derived.Test.YtbenfglhomiocaaFldH
namespace Go.Proofs.Ytbenfglhomiocaa.Fld
open Go.Sim
set_option maxRecDepth 100000

theorem toNat_ofInt64 (x : Int) : (BitVec.ofInt 64 x).toNat = (x % 18446744073709551616).toNat := by
  rw [BitVec.toNat_ofInt]; rfl

/-- 'or' of a number below 2^m and a multiple of 2^m. -/
theorem orW (k : IntKind) (hk : k.bits = 64) {x y : Int} {a c m : Nat} (hx : x % 18446744073709551616 = a) (hy : y % 18446744073709551616 = ((2 ^ m * c : Nat) : Int)) (ha : a < 2 ^ m) :
    k.wrap (BitVec.ofInt k.bits x ||| BitVec.ofInt k.bits y).toNat = k.wrap ((2 ^ m * c + a : Nat) : Int) := by
  rw [hk, BitVec.toNat_or, toNat_ofInt64, toNat_ofInt64, hx, hy]
  simp only [Int.toNat_natCast]
  rw [Nat.or_comm, ← Nat.two_pow_add_eq_or_of_lt ha]

theorem andOne (x : Int) : IntKind.i64.wrap (BitVec.ofInt IntKind.i64.bits x &&& BitVec.ofInt IntKind.i64.bits 1).toNat = x % 2 := by
  have e : (BitVec.ofInt IntKind.i64.bits x &&& BitVec.ofInt IntKind.i64.bits 1).toNat = (x % 2).toNat := by
    show (BitVec.ofInt 64 x &&& BitVec.ofInt 64 1).toNat = _
    rw [BitVec.toNat_and, toNat_ofInt64, toNat_ofInt64]
    have h1 : ((1 : Int) % 18446744073709551616).toNat = 1 := by decide
    rw [h1, Nat.and_one_is_mod]
    omega
  rw [e, wrapI]
  omega

theorem wrapM (x : Int) (h1 : 0 ≤ x) (h2 : x ≤ 9223372036854775808) : ((x + 9223372036854775808) % 18446744073709551616 - 9223372036854775808) % 18446744073709551616 = x := by omega

/-- What the document's Low comes to. -/
def chain : Nat → SX
  | 0 => .c 0
  | i + 1 => .or .i64 (chain i) (.wrap .i64 (.shl (.and .i64 (.shr (.a 0) i) (.c 1)) i))

theorem chain_eval (val : Nat → Int) : ∀ i : Nat, i ≤ 64 → (chain i).eval val = IntKind.i64.wrap (val 0 % 2 ^ i) := by
  intro i
  induction i with
  | zero => intro _; simp only [chain, SX.eval, Int.pow_zero, Int.emod_one]; decide
  | succ i ih =>
    intro hi
    have ih := ih (by omega)
    show IntKind.i64.wrap (BitVec.ofInt IntKind.i64.bits ((chain i).eval val) ||| BitVec.ofInt IntKind.i64.bits (IntKind.i64.wrap (IntKind.i64.wrap (BitVec.ofInt IntKind.i64.bits ((val 0).fdiv (2 ^ i)) &&& BitVec.ofInt IntKind.i64.bits 1).toNat * 2 ^ i))).toNat = _
    rw [andOne, fdivP, ih]
    have hp : (0 : Int) < 2 ^ i := by exact_mod_cast Nat.two_pow_pos i
    have hle : (2 : Int) ^ i ≤ 9223372036854775808 := by
      have : (2 : Nat) ^ i ≤ 2 ^ 63 := Nat.pow_le_pow_right (by omega) (by omega)
      have h63 : (2 : Nat) ^ 63 = 9223372036854775808 := by decide
      rw [h63] at this
      have h2 : ((2 ^ i : Nat) : Int) ≤ ((9223372036854775808 : Nat) : Int) := Int.ofNat_le.2 this
      rw [Int.natCast_pow] at h2
      exact h2
    have r0 := Int.emod_nonneg (val 0) (b := 2 ^ i) (by omega)
    have r1 := Int.emod_lt_of_pos (val 0) hp
    have b0 := Int.emod_nonneg (val 0 / 2 ^ i) (b := 2) (by omega)
    have b1 := Int.emod_lt_of_pos (val 0 / 2 ^ i) (b := 2) (by omega)
    generalize hb : val 0 / 2 ^ i % 2 = b at b0 b1
    generalize hr : val 0 % 2 ^ i = r at r0 r1
    have hsum : val 0 % 2 ^ (i + 1) = 2 ^ i * b + r := by
      have e1 : val 0 = 2 ^ i * (val 0 / 2 ^ i) + r := by rw [← hr]; exact (Int.mul_ediv_add_emod _ _).symm
      have e2 : val 0 / 2 ^ i = 2 * (val 0 / 2 ^ i / 2) + b := by rw [← hb]; exact (Int.mul_ediv_add_emod _ _).symm
      have e3 : val 0 = (2 ^ i * b + r) + 2 ^ (i + 1) * (val 0 / 2 ^ i / 2) := by
        have e4 : (2 : Int) ^ (i + 1) = 2 ^ i * 2 := Int.pow_succ ..
        rw [e4]
        have e5 : (2 ^ i * (val 0 / 2 ^ i) : Int) = 2 ^ i * 2 * (val 0 / 2 ^ i / 2) + 2 ^ i * b := by
          conv => lhs; rw [e2]
          rw [Int.mul_add, ← Int.mul_assoc]
        omega
      have hb2 : 0 ≤ 2 ^ i * b + r ∧ 2 ^ i * b + r < 2 ^ (i + 1) := by
        have e4 : (2 : Int) ^ (i + 1) = 2 ^ i * 2 := Int.pow_succ ..
        rcases (by omega : b = 0 ∨ b = 1) with rfl | rfl
        · simp; omega
        · simp; omega
      conv => lhs; rw [e3]
      rw [Int.add_mul_emod_self_left, Int.emod_eq_of_lt hb2.1 hb2.2]
    obtain ⟨rn, rfl⟩ : ∃ n : Nat, r = n := ⟨r.toNat, by omega⟩
    obtain ⟨bn, rfl⟩ : ∃ n : Nat, b = n := ⟨b.toNat, by omega⟩
    rw [orW .i64 rfl (a := rn) (c := bn) (m := i) ?_ ?_ ?_, hsum]
    · congr 1
    · rw [wrapI]
      exact wrapM _ (by omega) (by omega)
    · have e6 : ((bn : Int) * 2 ^ i) = ((2 ^ i * bn : Nat) : Int) := by push_cast; rw [Int.mul_comm]
      have hb3 : ((2 ^ i * bn : Nat) : Int) ≤ 9223372036854775808 := by
        rcases (by omega : bn = 0 ∨ bn = 1) with rfl | rfl
        · simp
        · simp only [Nat.mul_one]; push_cast; omega
      rw [e6, wrapI]
      exact wrapM _ (by omega) (by omega)
    · have : ((rn : Nat) : Int) < ((2 ^ i : Nat) : Int) := by push_cast; exact r1
      omega

end Go.Proofs.Ytbenfglhomiocaa.Fld
