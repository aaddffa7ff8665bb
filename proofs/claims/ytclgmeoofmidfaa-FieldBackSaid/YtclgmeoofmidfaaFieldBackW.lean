/-
  'FieldBack' says true of any numbers, any bytes.
-/
import Derived.Test.YtclgmeoofmidfaaBackD1
import Derived.Test.YtclgmeoofmidfaaBackD2
import Derived.Test.YtclgmeoofmidfaaBackD3
import Derived.Test.YtclgmeoofmidfaaBackD4
namespace Go.Proofs.Ytclgmeoofmidfaa.fieldBack
open Go.Sim Go.Proofs.Ytclgmeoofmidfaa.Fld Go.Proofs.Ytclgmeoofmidfaa.BackL
set_option maxRecDepth 100000

abbrev ALL (n : Nat) : Prop := ∀ wh s : Nat, (wh = 0 ∧ s = 1 ∨ wh = 1 ∧ s = 2 ∨ wh = 2 ∧ s = 4 ∨ wh = 3 ∧ s = 8) → ∀ c, c < 4 → DL n wh s c

theorem four {P : Nat → Prop} (h0 : P 0) (h1 : P 1) (h2 : P 2) (h3 : P 3) : ∀ c, c < 4 → P c := fun c hc => match c, hc with
  | 0, _ => h0
  | 1, _ => h1
  | 2, _ => h2
  | 3, _ => h3

theorem all4 {P : Nat → Nat → Nat → Prop} (h0 : ∀ c, c < 4 → P 0 1 c) (h1 : ∀ c, c < 4 → P 1 2 c) (h2 : ∀ c, c < 4 → P 2 4 c) (h3 : ∀ c, c < 4 → P 3 8 c) : ∀ wh s : Nat, (wh = 0 ∧ s = 1 ∨ wh = 1 ∧ s = 2 ∨ wh = 2 ∧ s = 4 ∨ wh = 3 ∧ s = 8) → ∀ c, c < 4 → P wh s c := by
  intro wh s h
  rcases h with ⟨rfl, rfl⟩ | ⟨rfl, rfl⟩ | ⟨rfl, rfl⟩ | ⟨rfl, rfl⟩
  · exact h0
  · exact h1
  · exact h2
  · exact h3

theorem step {P : Nat → Prop} {n : Nat} (h : ∀ k, 1 ≤ k → k ≤ n → P k) (h' : P (n + 1)) : ∀ k, 1 ≤ k → k ≤ n + 1 → P k := fun k h1 h2 => if e : k = n + 1 then e ▸ h' else h k h1 (by omega)

theorem a0 : ∀ k, 1 ≤ k → k ≤ 0 → ALL k := fun k h1 h2 => by omega
theorem a1 : ∀ k, 1 ≤ k → k ≤ 1 → ALL k := step a0 (all4 (P := DL 1) (four (P := DL 1 0 1) d1_0_0 d1_0_1 d1_0_2 d1_0_3) (four (P := DL 1 1 2) d1_1_0 d1_1_1 d1_1_2 d1_1_3) (four (P := DL 1 2 4) d1_2_0 d1_2_1 d1_2_2 d1_2_3) (four (P := DL 1 3 8) d1_3_0 d1_3_1 d1_3_2 d1_3_3))
theorem a2 : ∀ k, 1 ≤ k → k ≤ 2 → ALL k := step a1 (all4 (P := DL 2) (four (P := DL 2 0 1) d2_0_0 d2_0_1 d2_0_2 d2_0_3) (four (P := DL 2 1 2) d2_1_0 d2_1_1 d2_1_2 d2_1_3) (four (P := DL 2 2 4) d2_2_0 d2_2_1 d2_2_2 d2_2_3) (four (P := DL 2 3 8) d2_3_0 d2_3_1 d2_3_2 d2_3_3))
theorem a3 : ∀ k, 1 ≤ k → k ≤ 3 → ALL k := step a2 (all4 (P := DL 3) (four (P := DL 3 0 1) d3_0_0 d3_0_1 d3_0_2 d3_0_3) (four (P := DL 3 1 2) d3_1_0 d3_1_1 d3_1_2 d3_1_3) (four (P := DL 3 2 4) d3_2_0 d3_2_1 d3_2_2 d3_2_3) (four (P := DL 3 3 8) d3_3_0 d3_3_1 d3_3_2 d3_3_3))
theorem a4 : ∀ k, 1 ≤ k → k ≤ 4 → ALL k := step a3 (all4 (P := DL 4) (four (P := DL 4 0 1) d4_0_0 d4_0_1 d4_0_2 d4_0_3) (four (P := DL 4 1 2) d4_1_0 d4_1_1 d4_1_2 d4_1_3) (four (P := DL 4 2 4) d4_2_0 d4_2_1 d4_2_2 d4_2_3) (four (P := DL 4 3 8) d4_3_0 d4_3_1 d4_3_2 d4_3_3))
theorem a5 : ∀ k, 1 ≤ k → k ≤ 5 → ALL k := step a4 (all4 (P := DL 5) (four (P := DL 5 0 1) d5_0_0 d5_0_1 d5_0_2 d5_0_3) (four (P := DL 5 1 2) d5_1_0 d5_1_1 d5_1_2 d5_1_3) (four (P := DL 5 2 4) d5_2_0 d5_2_1 d5_2_2 d5_2_3) (four (P := DL 5 3 8) d5_3_0 d5_3_1 d5_3_2 d5_3_3))
theorem a6 : ∀ k, 1 ≤ k → k ≤ 6 → ALL k := step a5 (all4 (P := DL 6) (four (P := DL 6 0 1) d6_0_0 d6_0_1 d6_0_2 d6_0_3) (four (P := DL 6 1 2) d6_1_0 d6_1_1 d6_1_2 d6_1_3) (four (P := DL 6 2 4) d6_2_0 d6_2_1 d6_2_2 d6_2_3) (four (P := DL 6 3 8) d6_3_0 d6_3_1 d6_3_2 d6_3_3))
theorem a7 : ∀ k, 1 ≤ k → k ≤ 7 → ALL k := step a6 (all4 (P := DL 7) (four (P := DL 7 0 1) d7_0_0 d7_0_1 d7_0_2 d7_0_3) (four (P := DL 7 1 2) d7_1_0 d7_1_1 d7_1_2 d7_1_3) (four (P := DL 7 2 4) d7_2_0 d7_2_1 d7_2_2 d7_2_3) (four (P := DL 7 3 8) d7_3_0 d7_3_1 d7_3_2 d7_3_3))
theorem a8 : ∀ k, 1 ≤ k → k ≤ 8 → ALL k := step a7 (all4 (P := DL 8) (four (P := DL 8 0 1) d8_0_0 d8_0_1 d8_0_2 d8_0_3) (four (P := DL 8 1 2) d8_1_0 d8_1_1 d8_1_2 d8_1_3) (four (P := DL 8 2 4) d8_2_0 d8_2_1 d8_2_2 d8_2_3) (four (P := DL 8 3 8) d8_3_0 d8_3_1 d8_3_2 d8_3_3))
theorem a9 : ∀ k, 1 ≤ k → k ≤ 9 → ALL k := step a8 (all4 (P := DL 9) (four (P := DL 9 0 1) d9_0_0 d9_0_1 d9_0_2 d9_0_3) (four (P := DL 9 1 2) d9_1_0 d9_1_1 d9_1_2 d9_1_3) (four (P := DL 9 2 4) d9_2_0 d9_2_1 d9_2_2 d9_2_3) (four (P := DL 9 3 8) d9_3_0 d9_3_1 d9_3_2 d9_3_3))
theorem a10 : ∀ k, 1 ≤ k → k ≤ 10 → ALL k := step a9 (all4 (P := DL 10) (four (P := DL 10 0 1) d10_0_0 d10_0_1 d10_0_2 d10_0_3) (four (P := DL 10 1 2) d10_1_0 d10_1_1 d10_1_2 d10_1_3) (four (P := DL 10 2 4) d10_2_0 d10_2_1 d10_2_2 d10_2_3) (four (P := DL 10 3 8) d10_3_0 d10_3_1 d10_3_2 d10_3_3))
theorem a11 : ∀ k, 1 ≤ k → k ≤ 11 → ALL k := step a10 (all4 (P := DL 11) (four (P := DL 11 0 1) d11_0_0 d11_0_1 d11_0_2 d11_0_3) (four (P := DL 11 1 2) d11_1_0 d11_1_1 d11_1_2 d11_1_3) (four (P := DL 11 2 4) d11_2_0 d11_2_1 d11_2_2 d11_2_3) (four (P := DL 11 3 8) d11_3_0 d11_3_1 d11_3_2 d11_3_3))
theorem a12 : ∀ k, 1 ≤ k → k ≤ 12 → ALL k := step a11 (all4 (P := DL 12) (four (P := DL 12 0 1) d12_0_0 d12_0_1 d12_0_2 d12_0_3) (four (P := DL 12 1 2) d12_1_0 d12_1_1 d12_1_2 d12_1_3) (four (P := DL 12 2 4) d12_2_0 d12_2_1 d12_2_2 d12_2_3) (four (P := DL 12 3 8) d12_3_0 d12_3_1 d12_3_2 d12_3_3))
theorem a13 : ∀ k, 1 ≤ k → k ≤ 13 → ALL k := step a12 (all4 (P := DL 13) (four (P := DL 13 0 1) d13_0_0 d13_0_1 d13_0_2 d13_0_3) (four (P := DL 13 1 2) d13_1_0 d13_1_1 d13_1_2 d13_1_3) (four (P := DL 13 2 4) d13_2_0 d13_2_1 d13_2_2 d13_2_3) (four (P := DL 13 3 8) d13_3_0 d13_3_1 d13_3_2 d13_3_3))
theorem a14 : ∀ k, 1 ≤ k → k ≤ 14 → ALL k := step a13 (all4 (P := DL 14) (four (P := DL 14 0 1) d14_0_0 d14_0_1 d14_0_2 d14_0_3) (four (P := DL 14 1 2) d14_1_0 d14_1_1 d14_1_2 d14_1_3) (four (P := DL 14 2 4) d14_2_0 d14_2_1 d14_2_2 d14_2_3) (four (P := DL 14 3 8) d14_3_0 d14_3_1 d14_3_2 d14_3_3))
theorem a15 : ∀ k, 1 ≤ k → k ≤ 15 → ALL k := step a14 (all4 (P := DL 15) (four (P := DL 15 0 1) d15_0_0 d15_0_1 d15_0_2 d15_0_3) (four (P := DL 15 1 2) d15_1_0 d15_1_1 d15_1_2 d15_1_3) (four (P := DL 15 2 4) d15_2_0 d15_2_1 d15_2_2 d15_2_3) (four (P := DL 15 3 8) d15_3_0 d15_3_1 d15_3_2 d15_3_3))
theorem a16 : ∀ k, 1 ≤ k → k ≤ 16 → ALL k := step a15 (all4 (P := DL 16) (four (P := DL 16 0 1) d16_0_0 d16_0_1 d16_0_2 d16_0_3) (four (P := DL 16 1 2) d16_1_0 d16_1_1 d16_1_2 d16_1_3) (four (P := DL 16 2 4) d16_2_0 d16_2_1 d16_2_2 d16_2_3) (four (P := DL 16 3 8) d16_3_0 d16_3_1 d16_3_2 d16_3_3))
theorem a17 : ∀ k, 1 ≤ k → k ≤ 17 → ALL k := step a16 (all4 (P := DL 17) (four (P := DL 17 0 1) d17_0_0 d17_0_1 d17_0_2 d17_0_3) (four (P := DL 17 1 2) d17_1_0 d17_1_1 d17_1_2 d17_1_3) (four (P := DL 17 2 4) d17_2_0 d17_2_1 d17_2_2 d17_2_3) (four (P := DL 17 3 8) d17_3_0 d17_3_1 d17_3_2 d17_3_3))
theorem a18 : ∀ k, 1 ≤ k → k ≤ 18 → ALL k := step a17 (all4 (P := DL 18) (four (P := DL 18 0 1) d18_0_0 d18_0_1 d18_0_2 d18_0_3) (four (P := DL 18 1 2) d18_1_0 d18_1_1 d18_1_2 d18_1_3) (four (P := DL 18 2 4) d18_2_0 d18_2_1 d18_2_2 d18_2_3) (four (P := DL 18 3 8) d18_3_0 d18_3_1 d18_3_2 d18_3_3))
theorem a19 : ∀ k, 1 ≤ k → k ≤ 19 → ALL k := step a18 (all4 (P := DL 19) (four (P := DL 19 0 1) d19_0_0 d19_0_1 d19_0_2 d19_0_3) (four (P := DL 19 1 2) d19_1_0 d19_1_1 d19_1_2 d19_1_3) (four (P := DL 19 2 4) d19_2_0 d19_2_1 d19_2_2 d19_2_3) (four (P := DL 19 3 8) d19_3_0 d19_3_1 d19_3_2 d19_3_3))
theorem a20 : ∀ k, 1 ≤ k → k ≤ 20 → ALL k := step a19 (all4 (P := DL 20) (four (P := DL 20 0 1) d20_0_0 d20_0_1 d20_0_2 d20_0_3) (four (P := DL 20 1 2) d20_1_0 d20_1_1 d20_1_2 d20_1_3) (four (P := DL 20 2 4) d20_2_0 d20_2_1 d20_2_2 d20_2_3) (four (P := DL 20 3 8) d20_3_0 d20_3_1 d20_3_2 d20_3_3))
theorem a21 : ∀ k, 1 ≤ k → k ≤ 21 → ALL k := step a20 (all4 (P := DL 21) (four (P := DL 21 0 1) d21_0_0 d21_0_1 d21_0_2 d21_0_3) (four (P := DL 21 1 2) d21_1_0 d21_1_1 d21_1_2 d21_1_3) (four (P := DL 21 2 4) d21_2_0 d21_2_1 d21_2_2 d21_2_3) (four (P := DL 21 3 8) d21_3_0 d21_3_1 d21_3_2 d21_3_3))
theorem a22 : ∀ k, 1 ≤ k → k ≤ 22 → ALL k := step a21 (all4 (P := DL 22) (four (P := DL 22 0 1) d22_0_0 d22_0_1 d22_0_2 d22_0_3) (four (P := DL 22 1 2) d22_1_0 d22_1_1 d22_1_2 d22_1_3) (four (P := DL 22 2 4) d22_2_0 d22_2_1 d22_2_2 d22_2_3) (four (P := DL 22 3 8) d22_3_0 d22_3_1 d22_3_2 d22_3_3))
theorem a23 : ∀ k, 1 ≤ k → k ≤ 23 → ALL k := step a22 (all4 (P := DL 23) (four (P := DL 23 0 1) d23_0_0 d23_0_1 d23_0_2 d23_0_3) (four (P := DL 23 1 2) d23_1_0 d23_1_1 d23_1_2 d23_1_3) (four (P := DL 23 2 4) d23_2_0 d23_2_1 d23_2_2 d23_2_3) (four (P := DL 23 3 8) d23_3_0 d23_3_1 d23_3_2 d23_3_3))
theorem a24 : ∀ k, 1 ≤ k → k ≤ 24 → ALL k := step a23 (all4 (P := DL 24) (four (P := DL 24 0 1) d24_0_0 d24_0_1 d24_0_2 d24_0_3) (four (P := DL 24 1 2) d24_1_0 d24_1_1 d24_1_2 d24_1_3) (four (P := DL 24 2 4) d24_2_0 d24_2_1 d24_2_2 d24_2_3) (four (P := DL 24 3 8) d24_3_0 d24_3_1 d24_3_2 d24_3_3))
theorem a25 : ∀ k, 1 ≤ k → k ≤ 25 → ALL k := step a24 (all4 (P := DL 25) (four (P := DL 25 0 1) d25_0_0 d25_0_1 d25_0_2 d25_0_3) (four (P := DL 25 1 2) d25_1_0 d25_1_1 d25_1_2 d25_1_3) (four (P := DL 25 2 4) d25_2_0 d25_2_1 d25_2_2 d25_2_3) (four (P := DL 25 3 8) d25_3_0 d25_3_1 d25_3_2 d25_3_3))
theorem a26 : ∀ k, 1 ≤ k → k ≤ 26 → ALL k := step a25 (all4 (P := DL 26) (four (P := DL 26 0 1) d26_0_0 d26_0_1 d26_0_2 d26_0_3) (four (P := DL 26 1 2) d26_1_0 d26_1_1 d26_1_2 d26_1_3) (four (P := DL 26 2 4) d26_2_0 d26_2_1 d26_2_2 d26_2_3) (four (P := DL 26 3 8) d26_3_0 d26_3_1 d26_3_2 d26_3_3))
theorem a27 : ∀ k, 1 ≤ k → k ≤ 27 → ALL k := step a26 (all4 (P := DL 27) (four (P := DL 27 0 1) d27_0_0 d27_0_1 d27_0_2 d27_0_3) (four (P := DL 27 1 2) d27_1_0 d27_1_1 d27_1_2 d27_1_3) (four (P := DL 27 2 4) d27_2_0 d27_2_1 d27_2_2 d27_2_3) (four (P := DL 27 3 8) d27_3_0 d27_3_1 d27_3_2 d27_3_3))
theorem a28 : ∀ k, 1 ≤ k → k ≤ 28 → ALL k := step a27 (all4 (P := DL 28) (four (P := DL 28 0 1) d28_0_0 d28_0_1 d28_0_2 d28_0_3) (four (P := DL 28 1 2) d28_1_0 d28_1_1 d28_1_2 d28_1_3) (four (P := DL 28 2 4) d28_2_0 d28_2_1 d28_2_2 d28_2_3) (four (P := DL 28 3 8) d28_3_0 d28_3_1 d28_3_2 d28_3_3))
theorem a29 : ∀ k, 1 ≤ k → k ≤ 29 → ALL k := step a28 (all4 (P := DL 29) (four (P := DL 29 0 1) d29_0_0 d29_0_1 d29_0_2 d29_0_3) (four (P := DL 29 1 2) d29_1_0 d29_1_1 d29_1_2 d29_1_3) (four (P := DL 29 2 4) d29_2_0 d29_2_1 d29_2_2 d29_2_3) (four (P := DL 29 3 8) d29_3_0 d29_3_1 d29_3_2 d29_3_3))
theorem a30 : ∀ k, 1 ≤ k → k ≤ 30 → ALL k := step a29 (all4 (P := DL 30) (four (P := DL 30 0 1) d30_0_0 d30_0_1 d30_0_2 d30_0_3) (four (P := DL 30 1 2) d30_1_0 d30_1_1 d30_1_2 d30_1_3) (four (P := DL 30 2 4) d30_2_0 d30_2_1 d30_2_2 d30_2_3) (four (P := DL 30 3 8) d30_3_0 d30_3_1 d30_3_2 d30_3_3))
theorem a31 : ∀ k, 1 ≤ k → k ≤ 31 → ALL k := step a30 (all4 (P := DL 31) (four (P := DL 31 0 1) d31_0_0 d31_0_1 d31_0_2 d31_0_3) (four (P := DL 31 1 2) d31_1_0 d31_1_1 d31_1_2 d31_1_3) (four (P := DL 31 2 4) d31_2_0 d31_2_1 d31_2_2 d31_2_3) (four (P := DL 31 3 8) d31_3_0 d31_3_1 d31_3_2 d31_3_3))
theorem a32 : ∀ k, 1 ≤ k → k ≤ 32 → ALL k := step a31 (all4 (P := DL 32) (four (P := DL 32 0 1) d32_0_0 d32_0_1 d32_0_2 d32_0_3) (four (P := DL 32 1 2) d32_1_0 d32_1_1 d32_1_2 d32_1_3) (four (P := DL 32 2 4) d32_2_0 d32_2_1 d32_2_2 d32_2_3) (four (P := DL 32 3 8) d32_3_0 d32_3_1 d32_3_2 d32_3_3))
theorem a33 : ∀ k, 1 ≤ k → k ≤ 33 → ALL k := step a32 (all4 (P := DL 33) (four (P := DL 33 0 1) d33_0_0 d33_0_1 d33_0_2 d33_0_3) (four (P := DL 33 1 2) d33_1_0 d33_1_1 d33_1_2 d33_1_3) (four (P := DL 33 2 4) d33_2_0 d33_2_1 d33_2_2 d33_2_3) (four (P := DL 33 3 8) d33_3_0 d33_3_1 d33_3_2 d33_3_3))
theorem a34 : ∀ k, 1 ≤ k → k ≤ 34 → ALL k := step a33 (all4 (P := DL 34) (four (P := DL 34 0 1) d34_0_0 d34_0_1 d34_0_2 d34_0_3) (four (P := DL 34 1 2) d34_1_0 d34_1_1 d34_1_2 d34_1_3) (four (P := DL 34 2 4) d34_2_0 d34_2_1 d34_2_2 d34_2_3) (four (P := DL 34 3 8) d34_3_0 d34_3_1 d34_3_2 d34_3_3))
theorem a35 : ∀ k, 1 ≤ k → k ≤ 35 → ALL k := step a34 (all4 (P := DL 35) (four (P := DL 35 0 1) d35_0_0 d35_0_1 d35_0_2 d35_0_3) (four (P := DL 35 1 2) d35_1_0 d35_1_1 d35_1_2 d35_1_3) (four (P := DL 35 2 4) d35_2_0 d35_2_1 d35_2_2 d35_2_3) (four (P := DL 35 3 8) d35_3_0 d35_3_1 d35_3_2 d35_3_3))
theorem a36 : ∀ k, 1 ≤ k → k ≤ 36 → ALL k := step a35 (all4 (P := DL 36) (four (P := DL 36 0 1) d36_0_0 d36_0_1 d36_0_2 d36_0_3) (four (P := DL 36 1 2) d36_1_0 d36_1_1 d36_1_2 d36_1_3) (four (P := DL 36 2 4) d36_2_0 d36_2_1 d36_2_2 d36_2_3) (four (P := DL 36 3 8) d36_3_0 d36_3_1 d36_3_2 d36_3_3))
theorem a37 : ∀ k, 1 ≤ k → k ≤ 37 → ALL k := step a36 (all4 (P := DL 37) (four (P := DL 37 0 1) d37_0_0 d37_0_1 d37_0_2 d37_0_3) (four (P := DL 37 1 2) d37_1_0 d37_1_1 d37_1_2 d37_1_3) (four (P := DL 37 2 4) d37_2_0 d37_2_1 d37_2_2 d37_2_3) (four (P := DL 37 3 8) d37_3_0 d37_3_1 d37_3_2 d37_3_3))
theorem a38 : ∀ k, 1 ≤ k → k ≤ 38 → ALL k := step a37 (all4 (P := DL 38) (four (P := DL 38 0 1) d38_0_0 d38_0_1 d38_0_2 d38_0_3) (four (P := DL 38 1 2) d38_1_0 d38_1_1 d38_1_2 d38_1_3) (four (P := DL 38 2 4) d38_2_0 d38_2_1 d38_2_2 d38_2_3) (four (P := DL 38 3 8) d38_3_0 d38_3_1 d38_3_2 d38_3_3))
theorem a39 : ∀ k, 1 ≤ k → k ≤ 39 → ALL k := step a38 (all4 (P := DL 39) (four (P := DL 39 0 1) d39_0_0 d39_0_1 d39_0_2 d39_0_3) (four (P := DL 39 1 2) d39_1_0 d39_1_1 d39_1_2 d39_1_3) (four (P := DL 39 2 4) d39_2_0 d39_2_1 d39_2_2 d39_2_3) (four (P := DL 39 3 8) d39_3_0 d39_3_1 d39_3_2 d39_3_3))
theorem a40 : ∀ k, 1 ≤ k → k ≤ 40 → ALL k := step a39 (all4 (P := DL 40) (four (P := DL 40 0 1) d40_0_0 d40_0_1 d40_0_2 d40_0_3) (four (P := DL 40 1 2) d40_1_0 d40_1_1 d40_1_2 d40_1_3) (four (P := DL 40 2 4) d40_2_0 d40_2_1 d40_2_2 d40_2_3) (four (P := DL 40 3 8) d40_3_0 d40_3_1 d40_3_2 d40_3_3))
theorem a41 : ∀ k, 1 ≤ k → k ≤ 41 → ALL k := step a40 (all4 (P := DL 41) (four (P := DL 41 0 1) d41_0_0 d41_0_1 d41_0_2 d41_0_3) (four (P := DL 41 1 2) d41_1_0 d41_1_1 d41_1_2 d41_1_3) (four (P := DL 41 2 4) d41_2_0 d41_2_1 d41_2_2 d41_2_3) (four (P := DL 41 3 8) d41_3_0 d41_3_1 d41_3_2 d41_3_3))
theorem a42 : ∀ k, 1 ≤ k → k ≤ 42 → ALL k := step a41 (all4 (P := DL 42) (four (P := DL 42 0 1) d42_0_0 d42_0_1 d42_0_2 d42_0_3) (four (P := DL 42 1 2) d42_1_0 d42_1_1 d42_1_2 d42_1_3) (four (P := DL 42 2 4) d42_2_0 d42_2_1 d42_2_2 d42_2_3) (four (P := DL 42 3 8) d42_3_0 d42_3_1 d42_3_2 d42_3_3))
theorem a43 : ∀ k, 1 ≤ k → k ≤ 43 → ALL k := step a42 (all4 (P := DL 43) (four (P := DL 43 0 1) d43_0_0 d43_0_1 d43_0_2 d43_0_3) (four (P := DL 43 1 2) d43_1_0 d43_1_1 d43_1_2 d43_1_3) (four (P := DL 43 2 4) d43_2_0 d43_2_1 d43_2_2 d43_2_3) (four (P := DL 43 3 8) d43_3_0 d43_3_1 d43_3_2 d43_3_3))
theorem a44 : ∀ k, 1 ≤ k → k ≤ 44 → ALL k := step a43 (all4 (P := DL 44) (four (P := DL 44 0 1) d44_0_0 d44_0_1 d44_0_2 d44_0_3) (four (P := DL 44 1 2) d44_1_0 d44_1_1 d44_1_2 d44_1_3) (four (P := DL 44 2 4) d44_2_0 d44_2_1 d44_2_2 d44_2_3) (four (P := DL 44 3 8) d44_3_0 d44_3_1 d44_3_2 d44_3_3))
theorem a45 : ∀ k, 1 ≤ k → k ≤ 45 → ALL k := step a44 (all4 (P := DL 45) (four (P := DL 45 0 1) d45_0_0 d45_0_1 d45_0_2 d45_0_3) (four (P := DL 45 1 2) d45_1_0 d45_1_1 d45_1_2 d45_1_3) (four (P := DL 45 2 4) d45_2_0 d45_2_1 d45_2_2 d45_2_3) (four (P := DL 45 3 8) d45_3_0 d45_3_1 d45_3_2 d45_3_3))
theorem a46 : ∀ k, 1 ≤ k → k ≤ 46 → ALL k := step a45 (all4 (P := DL 46) (four (P := DL 46 0 1) d46_0_0 d46_0_1 d46_0_2 d46_0_3) (four (P := DL 46 1 2) d46_1_0 d46_1_1 d46_1_2 d46_1_3) (four (P := DL 46 2 4) d46_2_0 d46_2_1 d46_2_2 d46_2_3) (four (P := DL 46 3 8) d46_3_0 d46_3_1 d46_3_2 d46_3_3))
theorem a47 : ∀ k, 1 ≤ k → k ≤ 47 → ALL k := step a46 (all4 (P := DL 47) (four (P := DL 47 0 1) d47_0_0 d47_0_1 d47_0_2 d47_0_3) (four (P := DL 47 1 2) d47_1_0 d47_1_1 d47_1_2 d47_1_3) (four (P := DL 47 2 4) d47_2_0 d47_2_1 d47_2_2 d47_2_3) (four (P := DL 47 3 8) d47_3_0 d47_3_1 d47_3_2 d47_3_3))
theorem a48 : ∀ k, 1 ≤ k → k ≤ 48 → ALL k := step a47 (all4 (P := DL 48) (four (P := DL 48 0 1) d48_0_0 d48_0_1 d48_0_2 d48_0_3) (four (P := DL 48 1 2) d48_1_0 d48_1_1 d48_1_2 d48_1_3) (four (P := DL 48 2 4) d48_2_0 d48_2_1 d48_2_2 d48_2_3) (four (P := DL 48 3 8) d48_3_0 d48_3_1 d48_3_2 d48_3_3))
theorem a49 : ∀ k, 1 ≤ k → k ≤ 49 → ALL k := step a48 (all4 (P := DL 49) (four (P := DL 49 0 1) d49_0_0 d49_0_1 d49_0_2 d49_0_3) (four (P := DL 49 1 2) d49_1_0 d49_1_1 d49_1_2 d49_1_3) (four (P := DL 49 2 4) d49_2_0 d49_2_1 d49_2_2 d49_2_3) (four (P := DL 49 3 8) d49_3_0 d49_3_1 d49_3_2 d49_3_3))
theorem a50 : ∀ k, 1 ≤ k → k ≤ 50 → ALL k := step a49 (all4 (P := DL 50) (four (P := DL 50 0 1) d50_0_0 d50_0_1 d50_0_2 d50_0_3) (four (P := DL 50 1 2) d50_1_0 d50_1_1 d50_1_2 d50_1_3) (four (P := DL 50 2 4) d50_2_0 d50_2_1 d50_2_2 d50_2_3) (four (P := DL 50 3 8) d50_3_0 d50_3_1 d50_3_2 d50_3_3))

theorem dAll (k : Nat) (h1 : 1 ≤ k) (h2 : k ≤ 50) : ALL k := a50 k h1 h2

theorem eAll (sla : Nat → Option Addr × Nat) : ∀ wh s : Nat, (wh = 0 ∧ s = 1 ∨ wh = 1 ∧ s = 2 ∨ wh = 2 ∧ s = 4 ∨ wh = 3 ∧ s = 8) → ∀ c, c < 4 → DE sla wh s c := all4 (P := DE sla) (four (P := DE sla 0 1) (e0_0 sla) (e0_1 sla) (e0_2 sla) (e0_3 sla)) (four (P := DE sla 1 2) (e1_0 sla) (e1_1 sla) (e1_2 sla) (e1_3 sla)) (four (P := DE sla 2 4) (e2_0 sla) (e2_1 sla) (e2_2 sla) (e2_3 sla)) (four (P := DE sla 3 8) (e3_0 sla) (e3_1 sla) (e3_2 sla) (e3_3 sla))

theorem range {n : Int} (h : (Lit.int .i64 n).wf = true) : In n := by
  have h' : (decide (IntKind.i64.min ≤ n) && decide (n ≤ IntKind.i64.max)) = true := h
  simp only [Bool.and_eq_true, decide_eq_true_eq] at h'
  exact h'

theorem rangeB {n : Int} (h : (Lit.int .u8 n).wf = true) : 0 ≤ n ∧ n ≤ 255 := by
  have h' : (decide (IntKind.u8.min ≤ n) && decide (n ≤ IntKind.u8.max)) = true := h
  simp only [Bool.and_eq_true, decide_eq_true_eq] at h'
  exact h'

theorem wrapB {n : Int} (h : 0 ≤ n ∧ n ≤ 255) : IntKind.u8.wrap n = n := wrap_in .u8 h.1 h.2

theorem pick4 (m : Int) : Ret Try.prog 25 [.int .i64 m, .int .i64 4] (.int .i64 (m % 4)) := fun w =>
  (Go.Proofs.Ytclgmeoofmidfaa.Tab.pick_any m 4 ⟨by omega, by omega⟩ w).mono fun _ _ ⟨he, hw⟩ => ⟨he, by rw [hw]; exact RowKit.Below.refl _ _⟩

/-- The bytes of a number. -/
def byteN (n : Int) (k : Nat) : Int := IntKind.u8.wrap ((IntKind.u64.wrap n).fdiv (2 ^ (8 * k)))

theorem byteN_range (n : Int) (k : Nat) : 0 ≤ byteN n k ∧ byteN n k ≤ 255 := wrap_bounds .u8 _

theorem wrapU8 (x : Int) : IntKind.u8.wrap x = x % 256 := by
  simp only [IntKind.wrap, IntKind.bits, IntKind.signed, Bool.false_and, Bool.false_eq_true, if_false]; rfl

theorem byteN_eq (n : Int) (k : Nat) (hk : k < 8) : byteN n k = n / 2 ^ (8 * k) % 256 := by
  unfold byteN
  rw [wrapU8, fdivP, wrapU]
  have h : k = 0 ∨ k = 1 ∨ k = 2 ∨ k = 3 ∨ k = 4 ∨ k = 5 ∨ k = 6 ∨ k = 7 := by omega
  rcases h with rfl | rfl | rfl | rfl | rfl | rfl | rfl | rfl <;> simp only [Nat.reduceMul, Int.reducePow, Nat.mul_zero] <;> omega

/-- Of the bytes of a number its lowest bits are told. -/
theorem le_byteN (n : Int) : ∀ s, s ≤ 8 → le (byteN n) s = n % 2 ^ (8 * s) := by
  intro s
  induction s with
  | zero => intro _; show (0 : Int) = n % 2 ^ 0; simp [Int.emod_one]
  | succ s ih =>
    intro hs
    show le (byteN n) s + 2 ^ (8 * s) * byteN n s = _
    rw [ih (by omega), byteN_eq n s (by omega)]
    have hp : (0 : Int) < 2 ^ (8 * s) := by exact_mod_cast Nat.two_pow_pos (8 * s)
    have e : (2 : Int) ^ (8 * (s + 1)) = 2 ^ (8 * s) * 256 := by
      rw [show 8 * (s + 1) = 8 * s + 8 by omega, Int.pow_add]; rfl
    rw [e]
    generalize (2 : Int) ^ (8 * s) = p at *
    have r0 := Int.emod_nonneg n (b := p) (by omega)
    have r1 := Int.emod_lt_of_pos n hp
    have b0 := Int.emod_nonneg (n / p) (b := 256) (by omega)
    have b1 := Int.emod_lt_of_pos (n / p) (b := 256) (by omega)
    have e1 : n = p * (n / p) + n % p := (Int.mul_ediv_add_emod _ _).symm
    have e2 : n / p = 256 * (n / p / 256) + n / p % 256 := (Int.mul_ediv_add_emod _ _).symm
    generalize hb : n / p % 256 = b at *
    generalize hr : n % p = r at *
    generalize hq : n / p / 256 = q at *
    have e3 : n = (r + p * b) + (p * 256) * q := by
      rw [e1, e2, Int.mul_add, Int.mul_assoc]
      omega
    have h1 : 0 ≤ p * b := Int.mul_nonneg (by omega) b0
    have h2 : p * b ≤ p * 255 := Int.mul_le_mul_of_nonneg_left (by omega) (by omega)
    rw [e3, Int.add_mul_emod_self_left, Int.emod_eq_of_lt (by omega) (by omega)]

/-- What bears names. -/
abbrev valK (n which p q m len cap : Int) (zs : List Int) : Nat → Int := fun k => if k < 100 then [n, which, p, q, m, 0, 0, 0, 0, 0, 0, len, cap].getD k 0 else zs.getD (k - 100) 0

/-- The same numbers, with the bytes of one behind. -/
def putN (n : Int) (s : Nat) : List Int := (List.range s).map (byteN n)

theorem putN_len (n : Int) (s : Nat) : (putN n s).length = s := by simp [putN]

theorem putN_get (n : Int) (s i : Nat) (h : i < s) : (putN n s).getD i 0 = byteN n i := by
  rw [List.getD_eq_getElem?_getD, putN, List.getElem?_map, List.getElem?_range h]; rfl

theorem le_congr {z z' : Nat → Int} : ∀ s, (∀ i, i < s → z i = z' i) → le z s = le z' s := by
  intro s
  induction s with
  | zero => intro _; rfl
  | succ s ih => intro h; show le z s + _ * z s = le z' s + _ * z' s; rw [ih (fun i hi => h i (by omega)), h s (by omega)]

/-- What is got of what was put. -/
theorem got (zs : List Int) (n : Int) (hn : In n) (s : Nat) (hs : s = 1 ∨ s = 2 ∨ s = 4 ∨ s = 8) (g : Bool) :
    getN (zs ++ putN n s) zs.length s g = (if g then sgnF n (8 * s) else IntKind.i64.wrap (n % 2 ^ (8 * s)), 0) := by
  have hz : isSize s := by unfold isSize; omega
  unfold getN
  rw [if_pos hz, if_neg (by rw [List.length_append, putN_len]; omega), if_neg (by rw [List.length_append, putN_len]; omega)]
  have e : le (fun i => (zs ++ putN n s).getD (zs.length + i) 0) s = n % 2 ^ (8 * s) := by
    rw [← le_byteN n s (by omega)]
    apply le_congr
    intro i hi
    rw [← putN_get n s i hi, List.getD_eq_getElem?_getD, List.getElem?_append_right (by omega), List.getD_eq_getElem?_getD]
    congr 2
    omega
  show (gv (zs ++ putN n s) ((zs.length : Int)).toNat ((s : Int)).toNat g, (0 : Int)) = _
  unfold gv
  simp only [Int.toNat_natCast, e]
  cases g with
  | false => simp
  | true =>
    simp only [if_true]
    congr 1
    obtain ⟨h1, h2⟩ := hn
    rcases hs with rfl | rfl | rfl | rfl <;> simp only [sgnF, wrapI, Nat.reduceMul, Nat.reduceSub] <;> omega

/-- What is got is put as it was. -/
theorem back (zs : List Int) (hb : ∀ z ∈ zs, 0 ≤ z ∧ z ≤ 255) (s : Nat) (hs : s = 1 ∨ s = 2 ∨ s = 4 ∨ s = 8) (hl : s ≤ zs.length) (k : Nat) (hk : k < s) :
    byteN (gv zs 0 s true) k = zs.getD k 0 := by
  rw [byteN_eq _ k (by omega)]
  have hz := fun i => nat_getD zs hb i
  unfold gv
  simp only [if_true, Nat.zero_add]
  have h0 := hz 0
  have h1 := hz 1
  have h2 := hz 2
  have h3 := hz 3
  have h4 := hz 4
  have h5 := hz 5
  have h6 := hz 6
  have h7 := hz 7
  rcases hs with rfl | rfl | rfl | rfl
  · obtain rfl : k = 0 := by omega
    simp only [le, sgnF, wrapI, Nat.reduceMul, Nat.reduceSub, Int.reducePow, Nat.mul_zero]
    omega
  · rcases (by omega : k = 0 ∨ k = 1) with rfl | rfl <;> simp only [le, sgnF, wrapI, Nat.reduceMul, Nat.reduceSub, Int.reducePow, Nat.mul_zero] <;> omega
  · rcases (by omega : k = 0 ∨ k = 1 ∨ k = 2 ∨ k = 3) with rfl | rfl | rfl | rfl <;> simp only [le, sgnF, wrapI, Nat.reduceMul, Nat.reduceSub, Int.reducePow, Nat.mul_zero] <;> omega
  · rcases (by omega : k = 0 ∨ k = 1 ∨ k = 2 ∨ k = 3 ∨ k = 4 ∨ k = 5 ∨ k = 6 ∨ k = 7) with rfl | rfl | rfl | rfl | rfl | rfl | rfl | rfl <;> simp only [le, sgnF, wrapI, Nat.reduceMul, Nat.reduceSub, Int.reducePow, Nat.mul_zero] <;> omega

theorem gv_in (zs : List Int) (s : Nat) (hs : s = 1 ∨ s = 2 ∨ s = 4 ∨ s = 8) : In (gv zs 0 s true) ∧ sgnF (gv zs 0 s true) (8 * s) = gv zs 0 s true := by
  unfold gv
  simp only [if_true]
  have hw := wrap_bounds .i64 (le (fun i => zs.getD (0 + i) 0) s)
  have p := plAll _ hw (8 * s) (by omega) (by omega)
  exact ⟨p.sIn, p.ss⟩

section
variable {n which cap : Int} {zs : List Int} {sla : Nat → Option Addr × Nat}

/-- The names' numbers. -/
noncomputable abbrev V (n which cap : Int) (zs : List Int) (s : Nat) : Nat → Int := valK n which (sgnF n (8 * s)) (IntKind.i64.wrap (n % 2 ^ (8 * s))) (gv zs 0 s true) zs.length cap zs

theorem V_byte (hb : ∀ z ∈ zs, 0 ≤ z ∧ z ≤ 255) (s i : Nat) : IntKind.u8.wrap (V n which cap zs s (100 + i)) = zs.getD i 0 := by
  show IntKind.u8.wrap (if 100 + i < 100 then _ else zs.getD (100 + i - 100) 0) = _
  rw [if_neg (by omega), show 100 + i - 100 = i by omega]
  exact wrapB (nat_getD zs hb i)

theorem bytesV (hb : ∀ z ∈ zs, 0 ≤ z ∧ z ≤ 255) (h50 : zs.length ≤ 50) (s : Nat) : (takeX zs.length b50).map (SX.eval (V n which cap zs s)) = zs := by
  rw [takeX_eq]
  apply List.ext_getElem?
  intro i
  rw [List.getElem?_map, List.getElem?_take]
  by_cases hi : i < zs.length
  · rw [if_pos hi, b50_get i (by omega), List.getElem?_eq_getElem hi]
    show some (IntKind.u8.wrap (V n which cap zs s (100 + i))) = _
    rw [V_byte hb, List.getD_eq_getElem?_getD, List.getElem?_eq_getElem hi]
    rfl
  · rw [if_neg hi, List.getElem?_eq_none (by omega)]
    rfl

theorem pbsV (s : Nat) (hs : s = 1 ∨ s = 2 ∨ s = 4 ∨ s = 8) : (pbs s).map (SX.eval (V n which cap zs s)) = putN n s := by
  rcases hs with rfl | rfl | rfl | rfl <;> rfl

theorem stabOK (hn : In n) (hb : ∀ z ∈ zs, 0 ≤ z ∧ z ≤ 255) (h50 : zs.length ≤ 50) (s : Nat) (hs : s = 1 ∨ s = 2 ∨ s = 4 ∨ s = 8) {l : AV} (hl : @conc (nameS (V n which cap zs s) sla) E0 l = .int .i64 zs.length) :
    SlTabOK Try.prog (V n which cap zs s) sla (stab zs.length s l) := by
  have hall : ∀ z ∈ zs ++ putN n s, 0 ≤ z ∧ z ≤ 255 := by
    intro z hz
    rcases List.mem_append.1 hz with hz | hz
    · exact hb z hz
    · simp only [putN, List.mem_map] at hz
      obtain ⟨k, _, rfl⟩ := hz
      exact byteN_range n k
  have hlen : ((zs ++ putN n s).length : Int) ≤ 4611686018427387904 := by rw [List.length_append, putN_len]; omega
  intro y hy w v hv
  simp only [stab, List.mem_cons, List.not_mem_nil, or_false] at hy
  rcases hy with rfl | rfl | rfl
  · simp only [List.map_append, bytesV hb h50, pbsV s hs] at hv
    simp only [concs, hl]
    have := get11 w v (zs ++ putN n s) zs.length s true hall hlen hv
    rw [got zs n hn s hs] at this
    exact this
  · simp only [List.map_append, bytesV hb h50, pbsV s hs] at hv
    simp only [concs, hl]
    have := get11 w v (zs ++ putN n s) zs.length s false hall hlen hv
    rw [got zs n hn s hs] at this
    exact this
  · simp only [bytesV hb h50] at hv
    have := get11 w v zs 0 s true hb (by omega) hv
    have hz : isSize s := by unfold isSize; omega
    unfold getN at this
    rw [if_pos hz, if_neg (by omega)] at this
    cases hc : Nat.blt zs.length s with
    | true =>
      have hc' : zs.length < s := Nat.le_of_ble_eq_true hc
      rw [if_pos (by omega)] at this
      simp only [res, hc, cond_true]
      exact this
    | false =>
      have hc' : ¬ zs.length < s := fun h => by
        have : Nat.blt zs.length s = true := Nat.ble_eq_true_of_le h
        rw [hc] at this
        cases this
      rw [if_neg (by omega)] at this
      simp only [res, hc, cond_false]
      exact this

theorem tabOK {wh s : Nat} {w f : Bool} (hs : s = 1 ∨ s = 2 ∨ s = 4 ∨ s = 8) (hn : In n) (hwh : which % 4 = wh) (hw : (sgnF n (8 * s) == n || lowF n (8 * s) == n) = w) (hf : (sgnF n (8 * s) == n) = f) :
    TabOK Try.prog (V n which cap zs s) sla (tab wh s w f) := by
  obtain ⟨g1, g2⟩ := gv_in zs s hs
  intro y hy
  simp only [tab, List.mem_cons, List.not_mem_nil, or_false] at hy
  rcases hy with rfl | rfl | rfl | rfl
  · have := wideAll n hn (8 * s) (by omega) (by omega)
    rw [hw] at this
    exact this
  · have := fitsAll n hn (8 * s) (by omega) (by omega)
    rw [hf] at this
    exact this
  · have := wideAll (gv zs 0 s true) g1 (8 * s) (by omega) (by omega)
    rw [g2, beq_self_eq_true, Bool.true_or] at this
    exact this
  · have := pick4 which
    rw [hwh] at this
    exact this

theorem pfOK (hb : ∀ z ∈ zs, 0 ≤ z ∧ z ≤ 255) (s : Nat) (hs : s = 1 ∨ s = 2 ∨ s = 4 ∨ s = 8) (hl : s ≤ zs.length) (k : Nat) (hk : k < s) : (pf k).holds (V n which cap zs s) := by
  show (byteN (gv zs 0 s true) k == IntKind.u8.wrap (V n which cap zs s (100 + k))) = true
  rw [V_byte hb, beq_iff_eq]
  exact back zs hb s hs hl k hk

theorem pfsOK (hb : ∀ z ∈ zs, 0 ≤ z ∧ z ≤ 255) (s : Nat) (hs : s = 1 ∨ s = 2 ∨ s = 4 ∨ s = 8) : Holds (V n which cap zs s) (cond (Nat.blt zs.length s) [] (pfs s)) := by
  cases hc : Nat.blt zs.length s with
  | true => exact holds_nil
  | false =>
    have hl : s ≤ zs.length := by
      rcases Nat.lt_or_ge zs.length s with h | h
      · have : Nat.blt zs.length s = true := Nat.ble_eq_true_of_le h
        rw [hc] at this
        cases this
      · exact h
    have q := pfOK (n := n) (which := which) (cap := cap) hb s hs hl
    rw [cond_false]
    rcases hs with rfl | rfl | rfl | rfl
    · exact holds_cons (q 0 (by omega)) holds_nil
    · exact holds_cons (q 0 (by omega)) (holds_cons (q 1 (by omega)) holds_nil)
    · exact holds_cons (q 0 (by omega)) (holds_cons (q 1 (by omega)) (holds_cons (q 2 (by omega)) (holds_cons (q 3 (by omega)) holds_nil)))
    · exact holds_cons (q 0 (by omega)) (holds_cons (q 1 (by omega)) (holds_cons (q 2 (by omega)) (holds_cons (q 3 (by omega)) (holds_cons (q 4 (by omega)) (holds_cons (q 5 (by omega)) (holds_cons (q 6 (by omega)) (holds_cons (q 7 (by omega)) holds_nil)))))))

theorem holds_app {val : Nat → Int} {F G : List Fact} (h : Holds val F) (h' : Holds val G) : Holds val (F ++ G) := fun f hf => (List.mem_append.1 hf).elim (h f) (h' f)

/-- One of the four ways. -/
theorem ways (hn : In n) (s : Nat) (hs : s = 1 ∨ s = 2 ∨ s = 4 ∨ s = 8) : ∃ c, c < 4 ∧ (sgnF n (8 * s) == n || lowF n (8 * s) == n) = wW c ∧ (sgnF n (8 * s) == n) = wF c ∧ Holds (V n which cap zs s) (way c) := by
  have p := plAll n hn (8 * s) (by omega) (by omega)
  obtain ⟨n1, n2⟩ := id hn
  have hq : 0 ≤ n → lowF n (8 * s) = n → IntKind.i64.wrap (n % 2 ^ (8 * s)) = n := by
    intro h0 hl
    rcases hs with rfl | rfl | rfl | rfl <;> simp only [lowF, Nat.reduceMul, wrapI] at hl ⊢ <;> omega
  have hfl : 0 ≤ n → sgnF n (8 * s) = n → lowF n (8 * s) = n := by
    intro h0 hl
    rcases hs with rfl | rfl | rfl | rfl <;> simp only [lowF, sgnF, Nat.reduceMul, Nat.reduceSub] at hl ⊢ <;> omega
  by_cases hf : sgnF n (8 * s) = n
  · have hfb : (sgnF n (8 * s) == n) = true := by rw [beq_iff_eq]; exact hf
    by_cases h0 : 0 ≤ n
    · exact ⟨1, by omega, by rw [hfb]; rfl, hfb, holds_cons h0 (holds_cons hfb (holds_cons (show (IntKind.i64.wrap (n % 2 ^ (8 * s)) == n) = true by rw [beq_iff_eq]; exact hq h0 (hfl h0 hf)) holds_nil))⟩
    · exact ⟨2, by omega, by rw [hfb]; rfl, hfb, holds_cons (show n ≤ -1 by omega) (holds_cons hfb holds_nil)⟩
  · have hfb : (sgnF n (8 * s) == n) = false := by rw [beq_eq_false_iff_ne]; exact hf
    by_cases hl : lowF n (8 * s) = n
    · have h0 : 0 ≤ n := by
        rcases p.low.1 hl with h | h
        · exact absurd (p.fit.2 (by rw [h]; simp only [Nat.reduceSub]; omega)) hf
        · exact h.1
      exact ⟨3, by omega, by rw [hfb, Bool.false_or, beq_iff_eq.2 hl]; rfl, hfb, holds_cons h0 (holds_cons (show (IntKind.i64.wrap (n % 2 ^ (8 * s)) == n) = true by rw [beq_iff_eq]; exact hq h0 hl) (holds_cons hfb holds_nil))⟩
    · exact ⟨0, by omega, by rw [hfb, Bool.false_or, beq_eq_false_iff_ne.2 hl]; rfl, hfb, holds_nil⟩

end

theorem outsOK {n which cap : Int} {zs : List Int} {s : Nat} {w : World} {b off : Nat} (hb : ∀ z ∈ zs, 0 ≤ z ∧ z ≤ 255) (h50 : zs.length ≤ 50) (hlt : b < w.heap.size)
    (hc : ∀ (i : Nat) (m : Int), zs[i]? = some m → w.cell? ⟨b, off + i, none⟩ = some (.int .u8 m)) : @OutOK (nameS (V n which cap zs s) sl0) ⟨fun _ => b, fun _ => off⟩ w (outs zs.length) := by
  intro k o hk
  cases k with
  | zero =>
    simp only [outs, List.getElem?_cons_zero, Option.some.injEq] at hk
    subst hk
    refine ⟨hlt, fun _ i v hv => ?_, fun ki k0 m he => by simp at he⟩
    simp only [takeL_eq', List.getElem?_take] at hv
    split at hv
    · rename_i hi
      rw [c50_get i (by omega)] at hv
      cases hv
      show w.cell? ⟨b, off + i, none⟩ = some (.int .u8 (IntKind.u8.wrap (V n which cap zs s (100 + i))))
      rw [V_byte hb]
      have := hc i zs[i] (List.getElem?_eq_getElem hi)
      rw [this, List.getD_eq_getElem?_getD, List.getElem?_eq_getElem hi]
      rfl
    · cases hv
  | succ k => simp [outs] at hk

theorem whichs (m : Int) : ∃ wh s : Nat, m % 4 = wh ∧ (wh = 0 ∧ s = 1 ∨ wh = 1 ∧ s = 2 ∨ wh = 2 ∧ s = 4 ∨ wh = 3 ∧ s = 8) := by
  have h : m % 4 = 0 ∨ m % 4 = 1 ∨ m % 4 = 2 ∨ m % 4 = 3 := by omega
  rcases h with h | h | h | h
  · exact ⟨0, 1, h, .inl ⟨rfl, rfl⟩⟩
  · exact ⟨1, 2, h, .inr (.inl ⟨rfl, rfl⟩)⟩
  · exact ⟨2, 4, h, .inr (.inr (.inl ⟨rfl, rfl⟩))⟩
  · exact ⟨3, 8, h, .inr (.inr (.inr ⟨rfl, rfl⟩))⟩

theorem walk (n : Int) (hn : (Lit.int .i64 n).wf = true) (which : Int) (_ : (Lit.int .i64 which).wf = true) (v : Value) (w : World) (hv : SliceIn w .u8 v) :
    Calls Try.prog 4 #[.int .i64 n, .int .i64 which, v] w fun e w' => e = .returned (.bool true) ∧ RowKit.Below w.heap.size w w' := by
  have hn := range hn
  obtain ⟨wh, s, hwh, hws⟩ := whichs which
  have hs : s = 1 ∨ s = 2 ∨ s = 4 ∨ s = 8 := by omega
  rcases hv with ⟨oa, cap, rfl⟩ | ⟨b, off, cap, zs, h0, rfl, hcap, hlt, hc, hwf⟩
  · obtain ⟨c, hc4, hcw, hcf, hcH⟩ := ways (which := which) (cap := (cap : Int)) (zs := []) hn s hs
    have hd := eAll (fun _ => (oa, cap)) wh s hws c hc4
    exact hd (V n which cap [] s) (holds_cons (show (0 : Int) = 0 from rfl) (holds_app hcH (pfsOK (fun z hz => by cases hz) s hs))) (tabOK hs hn hwh hcw hcf) (stabOK (zs := []) hn (fun z hz => by cases hz) (by simp) s hs rfl) E0 w (noOut _ _)
  · have hb : ∀ z ∈ zs, 0 ≤ z ∧ z ≤ 255 := fun z hz => rangeB (hwf z hz)
    by_cases h50 : zs.length ≤ 50
    · obtain ⟨c, hc4, hcw, hcf, hcH⟩ := ways (which := which) (cap := (cap : Int)) (zs := zs) hn s hs
      have hd := dAll zs.length h0 h50 wh s hws c hc4
      exact hd (V n which cap zs s) (holds_cons (show ((zs.length : Nat) : Int) ≤ cap by omega) (holds_app hcH (pfsOK hb s hs))) (tabOK hs hn hwh hcw hcf) (stabOK hn hb h50 s hs rfl) ⟨fun _ => b, fun _ => off⟩ w (outsOK hb h50 hlt hc)
    · have hF : Holds (valK n which 0 0 0 zs.length cap []) [.ge (.a 11) 51] := holds_cons (show (51 : Int) ≤ zs.length by omega) holds_nil
      exact longE (sla := fun _ => (some ⟨b, off, none⟩, cap)) hF E0 w (noOut _ _)

end Go.Proofs.Ytclgmeoofmidfaa.fieldBack
