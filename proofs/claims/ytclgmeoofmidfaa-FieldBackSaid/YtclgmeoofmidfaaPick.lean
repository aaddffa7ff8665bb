/-
  What linotypekit.Pick does: it takes any int to what it leaves over a number from 1 to 1000.
-/
import Derived.Test.YtclgmeoofmidfaaSim
import Derived.Test.YtclgmeoofmidfaaChecked
import Derived.WalkKit
import Derived.WalkSpells
namespace Go.Proofs.Ytclgmeoofmidfaa.Tab
open Go.RowKit Go.IntWalk

theorem emod_of_tmod_neg {x n : Int} (hn : 1 ≤ n) (h : x.tmod n < 0) : x.tmod n + n = x % n := by
  rw [Int.emod_eq_tmod]
  have h1 : ¬ (0 ≤ x ∨ n ∣ x) := by
    rintro (hx | hx)
    · have := Int.tmod_nonneg n hx; omega
    · rw [Int.tmod_eq_zero_of_dvd hx] at h; omega
  rw [if_neg h1]; omega

theorem emod_of_tmod_nonneg {x n : Int} (h : 0 ≤ x.tmod n) : x.tmod n = x % n := by
  rw [Int.emod_eq_tmod]
  split
  · simp
  · rename_i h1
    exfalso
    have hx : x < 0 := by omega
    have h2 : x.tmod n ≤ 0 := by
      have := Int.tmod_nonneg n (a := -x) (by omega)
      rw [Int.neg_tmod] at this; omega
    have h3 : x.tmod n = 0 := by omega
    exact h1 (.inr (Int.dvd_of_tmod_eq_zero h3))

set_option maxHeartbeats 400000 in
theorem pick_any (x n : Int) (hn : 1 ≤ n ∧ n ≤ 1000) (w : World) :
    Calls Try.prog 25 #[.int .i64 x, .int .i64 n] w fun e w' => e = .returned (.int .i64 (x % n)) ∧ w' = w := by
  go_enter Try.func25, Try.ntmps25
  go_wp2
  · have h1 : x.tmod n < 0 := by assumption
    have h2 := emod_of_tmod_neg hn.1 h1
    go_ret
    refine ⟨?_, rfl⟩
    have h3 := Int.emod_nonneg x (b := n) (by omega)
    have h4 := Int.emod_lt_of_pos x (b := n) (by omega)
    rw [h2, wrap64_in _ ⟨by omega, by omega⟩]
    rfl
  · have h1 : 0 ≤ x.tmod n := by assumption
    have h2 := emod_of_tmod_nonneg h1
    go_ret
    refine ⟨?_, rfl⟩
    rw [h2]
    rfl

theorem pickOK : Sim.PickOK Try.prog 25 := fun x n hn w => pick_any x n hn w

end Go.Proofs.Ytclgmeoofmidfaa.Tab
