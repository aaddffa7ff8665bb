/-
  Plain laws of numbers by their lowest bits.
-/
import Derived.Test.YtbenfglhomiocaaFldH
namespace Go.Proofs.Ytbenfglhomiocaa.Fld
open Go.Sim
set_option maxRecDepth 100000

/-- What holds of any number and so many bits. -/
structure PL (n : Int) (b : Nat) : Prop where
  ss : sgnF (sgnF n b) b = sgnF n b
  ll : lowF (lowF n b) b = lowF n b
  nn : b ≤ 63 → 0 ≤ lowF n b
  sIn : In (sgnF n b)
  lIn : In (lowF n b)
  diff : sgnF n b = lowF n b ∨ b ≤ 63 ∧ lowF n b = sgnF n b + 2 ^ b
  fit : sgnF n b = n ↔ -2 ^ (b - 1) ≤ n ∧ n < 2 ^ (b - 1)
  low : lowF n b = n ↔ b = 64 ∨ 0 ≤ n ∧ n < 2 ^ b

theorem pl1 (n : Int) (hn : In n) : PL n 1 := by
  obtain ⟨h1, h2⟩ := hn
  constructor <;> simp only [sgnF, lowF, In] <;> omega

theorem pl2 (n : Int) (hn : In n) : PL n 2 := by
  obtain ⟨h1, h2⟩ := hn
  constructor <;> simp only [sgnF, lowF, In] <;> omega

theorem pl3 (n : Int) (hn : In n) : PL n 3 := by
  obtain ⟨h1, h2⟩ := hn
  constructor <;> simp only [sgnF, lowF, In] <;> omega

theorem pl4 (n : Int) (hn : In n) : PL n 4 := by
  obtain ⟨h1, h2⟩ := hn
  constructor <;> simp only [sgnF, lowF, In] <;> omega

theorem pl5 (n : Int) (hn : In n) : PL n 5 := by
  obtain ⟨h1, h2⟩ := hn
  constructor <;> simp only [sgnF, lowF, In] <;> omega

theorem pl6 (n : Int) (hn : In n) : PL n 6 := by
  obtain ⟨h1, h2⟩ := hn
  constructor <;> simp only [sgnF, lowF, In] <;> omega

theorem pl7 (n : Int) (hn : In n) : PL n 7 := by
  obtain ⟨h1, h2⟩ := hn
  constructor <;> simp only [sgnF, lowF, In] <;> omega

theorem pl8 (n : Int) (hn : In n) : PL n 8 := by
  obtain ⟨h1, h2⟩ := hn
  constructor <;> simp only [sgnF, lowF, In] <;> omega

theorem pl9 (n : Int) (hn : In n) : PL n 9 := by
  obtain ⟨h1, h2⟩ := hn
  constructor <;> simp only [sgnF, lowF, In] <;> omega

theorem pl10 (n : Int) (hn : In n) : PL n 10 := by
  obtain ⟨h1, h2⟩ := hn
  constructor <;> simp only [sgnF, lowF, In] <;> omega

theorem pl11 (n : Int) (hn : In n) : PL n 11 := by
  obtain ⟨h1, h2⟩ := hn
  constructor <;> simp only [sgnF, lowF, In] <;> omega

theorem pl12 (n : Int) (hn : In n) : PL n 12 := by
  obtain ⟨h1, h2⟩ := hn
  constructor <;> simp only [sgnF, lowF, In] <;> omega

theorem pl13 (n : Int) (hn : In n) : PL n 13 := by
  obtain ⟨h1, h2⟩ := hn
  constructor <;> simp only [sgnF, lowF, In] <;> omega

theorem pl14 (n : Int) (hn : In n) : PL n 14 := by
  obtain ⟨h1, h2⟩ := hn
  constructor <;> simp only [sgnF, lowF, In] <;> omega

theorem pl15 (n : Int) (hn : In n) : PL n 15 := by
  obtain ⟨h1, h2⟩ := hn
  constructor <;> simp only [sgnF, lowF, In] <;> omega

theorem pl16 (n : Int) (hn : In n) : PL n 16 := by
  obtain ⟨h1, h2⟩ := hn
  constructor <;> simp only [sgnF, lowF, In] <;> omega

theorem pl17 (n : Int) (hn : In n) : PL n 17 := by
  obtain ⟨h1, h2⟩ := hn
  constructor <;> simp only [sgnF, lowF, In] <;> omega

theorem pl18 (n : Int) (hn : In n) : PL n 18 := by
  obtain ⟨h1, h2⟩ := hn
  constructor <;> simp only [sgnF, lowF, In] <;> omega

theorem pl19 (n : Int) (hn : In n) : PL n 19 := by
  obtain ⟨h1, h2⟩ := hn
  constructor <;> simp only [sgnF, lowF, In] <;> omega

theorem pl20 (n : Int) (hn : In n) : PL n 20 := by
  obtain ⟨h1, h2⟩ := hn
  constructor <;> simp only [sgnF, lowF, In] <;> omega

theorem pl21 (n : Int) (hn : In n) : PL n 21 := by
  obtain ⟨h1, h2⟩ := hn
  constructor <;> simp only [sgnF, lowF, In] <;> omega

theorem pl22 (n : Int) (hn : In n) : PL n 22 := by
  obtain ⟨h1, h2⟩ := hn
  constructor <;> simp only [sgnF, lowF, In] <;> omega

theorem pl23 (n : Int) (hn : In n) : PL n 23 := by
  obtain ⟨h1, h2⟩ := hn
  constructor <;> simp only [sgnF, lowF, In] <;> omega

theorem pl24 (n : Int) (hn : In n) : PL n 24 := by
  obtain ⟨h1, h2⟩ := hn
  constructor <;> simp only [sgnF, lowF, In] <;> omega

theorem pl25 (n : Int) (hn : In n) : PL n 25 := by
  obtain ⟨h1, h2⟩ := hn
  constructor <;> simp only [sgnF, lowF, In] <;> omega

theorem pl26 (n : Int) (hn : In n) : PL n 26 := by
  obtain ⟨h1, h2⟩ := hn
  constructor <;> simp only [sgnF, lowF, In] <;> omega

theorem pl27 (n : Int) (hn : In n) : PL n 27 := by
  obtain ⟨h1, h2⟩ := hn
  constructor <;> simp only [sgnF, lowF, In] <;> omega

theorem pl28 (n : Int) (hn : In n) : PL n 28 := by
  obtain ⟨h1, h2⟩ := hn
  constructor <;> simp only [sgnF, lowF, In] <;> omega

theorem pl29 (n : Int) (hn : In n) : PL n 29 := by
  obtain ⟨h1, h2⟩ := hn
  constructor <;> simp only [sgnF, lowF, In] <;> omega

theorem pl30 (n : Int) (hn : In n) : PL n 30 := by
  obtain ⟨h1, h2⟩ := hn
  constructor <;> simp only [sgnF, lowF, In] <;> omega

theorem pl31 (n : Int) (hn : In n) : PL n 31 := by
  obtain ⟨h1, h2⟩ := hn
  constructor <;> simp only [sgnF, lowF, In] <;> omega

theorem pl32 (n : Int) (hn : In n) : PL n 32 := by
  obtain ⟨h1, h2⟩ := hn
  constructor <;> simp only [sgnF, lowF, In] <;> omega

theorem pl33 (n : Int) (hn : In n) : PL n 33 := by
  obtain ⟨h1, h2⟩ := hn
  constructor <;> simp only [sgnF, lowF, In] <;> omega

theorem pl34 (n : Int) (hn : In n) : PL n 34 := by
  obtain ⟨h1, h2⟩ := hn
  constructor <;> simp only [sgnF, lowF, In] <;> omega

theorem pl35 (n : Int) (hn : In n) : PL n 35 := by
  obtain ⟨h1, h2⟩ := hn
  constructor <;> simp only [sgnF, lowF, In] <;> omega

theorem pl36 (n : Int) (hn : In n) : PL n 36 := by
  obtain ⟨h1, h2⟩ := hn
  constructor <;> simp only [sgnF, lowF, In] <;> omega

theorem pl37 (n : Int) (hn : In n) : PL n 37 := by
  obtain ⟨h1, h2⟩ := hn
  constructor <;> simp only [sgnF, lowF, In] <;> omega

theorem pl38 (n : Int) (hn : In n) : PL n 38 := by
  obtain ⟨h1, h2⟩ := hn
  constructor <;> simp only [sgnF, lowF, In] <;> omega

theorem pl39 (n : Int) (hn : In n) : PL n 39 := by
  obtain ⟨h1, h2⟩ := hn
  constructor <;> simp only [sgnF, lowF, In] <;> omega

theorem pl40 (n : Int) (hn : In n) : PL n 40 := by
  obtain ⟨h1, h2⟩ := hn
  constructor <;> simp only [sgnF, lowF, In] <;> omega

theorem pl41 (n : Int) (hn : In n) : PL n 41 := by
  obtain ⟨h1, h2⟩ := hn
  constructor <;> simp only [sgnF, lowF, In] <;> omega

theorem pl42 (n : Int) (hn : In n) : PL n 42 := by
  obtain ⟨h1, h2⟩ := hn
  constructor <;> simp only [sgnF, lowF, In] <;> omega

theorem pl43 (n : Int) (hn : In n) : PL n 43 := by
  obtain ⟨h1, h2⟩ := hn
  constructor <;> simp only [sgnF, lowF, In] <;> omega

theorem pl44 (n : Int) (hn : In n) : PL n 44 := by
  obtain ⟨h1, h2⟩ := hn
  constructor <;> simp only [sgnF, lowF, In] <;> omega

theorem pl45 (n : Int) (hn : In n) : PL n 45 := by
  obtain ⟨h1, h2⟩ := hn
  constructor <;> simp only [sgnF, lowF, In] <;> omega

theorem pl46 (n : Int) (hn : In n) : PL n 46 := by
  obtain ⟨h1, h2⟩ := hn
  constructor <;> simp only [sgnF, lowF, In] <;> omega

theorem pl47 (n : Int) (hn : In n) : PL n 47 := by
  obtain ⟨h1, h2⟩ := hn
  constructor <;> simp only [sgnF, lowF, In] <;> omega

theorem pl48 (n : Int) (hn : In n) : PL n 48 := by
  obtain ⟨h1, h2⟩ := hn
  constructor <;> simp only [sgnF, lowF, In] <;> omega

theorem pl49 (n : Int) (hn : In n) : PL n 49 := by
  obtain ⟨h1, h2⟩ := hn
  constructor <;> simp only [sgnF, lowF, In] <;> omega

theorem pl50 (n : Int) (hn : In n) : PL n 50 := by
  obtain ⟨h1, h2⟩ := hn
  constructor <;> simp only [sgnF, lowF, In] <;> omega

theorem pl51 (n : Int) (hn : In n) : PL n 51 := by
  obtain ⟨h1, h2⟩ := hn
  constructor <;> simp only [sgnF, lowF, In] <;> omega

theorem pl52 (n : Int) (hn : In n) : PL n 52 := by
  obtain ⟨h1, h2⟩ := hn
  constructor <;> simp only [sgnF, lowF, In] <;> omega

theorem pl53 (n : Int) (hn : In n) : PL n 53 := by
  obtain ⟨h1, h2⟩ := hn
  constructor <;> simp only [sgnF, lowF, In] <;> omega

theorem pl54 (n : Int) (hn : In n) : PL n 54 := by
  obtain ⟨h1, h2⟩ := hn
  constructor <;> simp only [sgnF, lowF, In] <;> omega

theorem pl55 (n : Int) (hn : In n) : PL n 55 := by
  obtain ⟨h1, h2⟩ := hn
  constructor <;> simp only [sgnF, lowF, In] <;> omega

theorem pl56 (n : Int) (hn : In n) : PL n 56 := by
  obtain ⟨h1, h2⟩ := hn
  constructor <;> simp only [sgnF, lowF, In] <;> omega

theorem pl57 (n : Int) (hn : In n) : PL n 57 := by
  obtain ⟨h1, h2⟩ := hn
  constructor <;> simp only [sgnF, lowF, In] <;> omega

theorem pl58 (n : Int) (hn : In n) : PL n 58 := by
  obtain ⟨h1, h2⟩ := hn
  constructor <;> simp only [sgnF, lowF, In] <;> omega

theorem pl59 (n : Int) (hn : In n) : PL n 59 := by
  obtain ⟨h1, h2⟩ := hn
  constructor <;> simp only [sgnF, lowF, In] <;> omega

theorem pl60 (n : Int) (hn : In n) : PL n 60 := by
  obtain ⟨h1, h2⟩ := hn
  constructor <;> simp only [sgnF, lowF, In] <;> omega

theorem pl61 (n : Int) (hn : In n) : PL n 61 := by
  obtain ⟨h1, h2⟩ := hn
  constructor <;> simp only [sgnF, lowF, In] <;> omega

theorem pl62 (n : Int) (hn : In n) : PL n 62 := by
  obtain ⟨h1, h2⟩ := hn
  constructor <;> simp only [sgnF, lowF, In] <;> omega

theorem pl63 (n : Int) (hn : In n) : PL n 63 := by
  obtain ⟨h1, h2⟩ := hn
  constructor <;> simp only [sgnF, lowF, In] <;> omega

theorem pl64 (n : Int) (hn : In n) : PL n 64 := by
  obtain ⟨h1, h2⟩ := hn
  constructor <;> simp only [sgnF, lowF, In, if_true] <;> (first | omega | (intro h; omega) | (intro h; exact absurd h (by decide)) | simp)

theorem plAll (n : Int) (hn : In n) (b : Nat) (h1 : 1 ≤ b) (h2 : b ≤ 64) : PL n b := by
  have h : b = 1 ∨ b = 2 ∨ b = 3 ∨ b = 4 ∨ b = 5 ∨ b = 6 ∨ b = 7 ∨ b = 8 ∨ b = 9 ∨ b = 10 ∨ b = 11 ∨ b = 12 ∨ b = 13 ∨ b = 14 ∨ b = 15 ∨ b = 16 ∨ b = 17 ∨ b = 18 ∨ b = 19 ∨ b = 20 ∨ b = 21 ∨ b = 22 ∨ b = 23 ∨ b = 24 ∨ b = 25 ∨ b = 26 ∨ b = 27 ∨ b = 28 ∨ b = 29 ∨ b = 30 ∨ b = 31 ∨ b = 32 ∨ b = 33 ∨ b = 34 ∨ b = 35 ∨ b = 36 ∨ b = 37 ∨ b = 38 ∨ b = 39 ∨ b = 40 ∨ b = 41 ∨ b = 42 ∨ b = 43 ∨ b = 44 ∨ b = 45 ∨ b = 46 ∨ b = 47 ∨ b = 48 ∨ b = 49 ∨ b = 50 ∨ b = 51 ∨ b = 52 ∨ b = 53 ∨ b = 54 ∨ b = 55 ∨ b = 56 ∨ b = 57 ∨ b = 58 ∨ b = 59 ∨ b = 60 ∨ b = 61 ∨ b = 62 ∨ b = 63 ∨ b = 64 := by omega
  rcases h with rfl | rfl | rfl | rfl | rfl | rfl | rfl | rfl | rfl | rfl | rfl | rfl | rfl | rfl | rfl | rfl | rfl | rfl | rfl | rfl | rfl | rfl | rfl | rfl | rfl | rfl | rfl | rfl | rfl | rfl | rfl | rfl | rfl | rfl | rfl | rfl | rfl | rfl | rfl | rfl | rfl | rfl | rfl | rfl | rfl | rfl | rfl | rfl | rfl | rfl | rfl | rfl | rfl | rfl | rfl | rfl | rfl | rfl | rfl | rfl | rfl | rfl | rfl | rfl
  · exact pl1 n hn
  · exact pl2 n hn
  · exact pl3 n hn
  · exact pl4 n hn
  · exact pl5 n hn
  · exact pl6 n hn
  · exact pl7 n hn
  · exact pl8 n hn
  · exact pl9 n hn
  · exact pl10 n hn
  · exact pl11 n hn
  · exact pl12 n hn
  · exact pl13 n hn
  · exact pl14 n hn
  · exact pl15 n hn
  · exact pl16 n hn
  · exact pl17 n hn
  · exact pl18 n hn
  · exact pl19 n hn
  · exact pl20 n hn
  · exact pl21 n hn
  · exact pl22 n hn
  · exact pl23 n hn
  · exact pl24 n hn
  · exact pl25 n hn
  · exact pl26 n hn
  · exact pl27 n hn
  · exact pl28 n hn
  · exact pl29 n hn
  · exact pl30 n hn
  · exact pl31 n hn
  · exact pl32 n hn
  · exact pl33 n hn
  · exact pl34 n hn
  · exact pl35 n hn
  · exact pl36 n hn
  · exact pl37 n hn
  · exact pl38 n hn
  · exact pl39 n hn
  · exact pl40 n hn
  · exact pl41 n hn
  · exact pl42 n hn
  · exact pl43 n hn
  · exact pl44 n hn
  · exact pl45 n hn
  · exact pl46 n hn
  · exact pl47 n hn
  · exact pl48 n hn
  · exact pl49 n hn
  · exact pl50 n hn
  · exact pl51 n hn
  · exact pl52 n hn
  · exact pl53 n hn
  · exact pl54 n hn
  · exact pl55 n hn
  · exact pl56 n hn
  · exact pl57 n hn
  · exact pl58 n hn
  · exact pl59 n hn
  · exact pl60 n hn
  · exact pl61 n hn
  · exact pl62 n hn
  · exact pl63 n hn
  · exact pl64 n hn

end Go.Proofs.Ytbenfglhomiocaa.Fld
