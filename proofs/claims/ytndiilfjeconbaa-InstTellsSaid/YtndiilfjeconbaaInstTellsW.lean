/-
  'InstTells' says true of any two instructions.
-/
import Derived.Test.YtndiilfjeconbaaSamK
import Derived.Test.YtndiilfjeconbaaTelD0
import Derived.Test.YtndiilfjeconbaaTelD1
import Derived.Test.YtndiilfjeconbaaTelD2
import Derived.Test.YtndiilfjeconbaaTelD3
import Derived.Test.YtndiilfjeconbaaTelD4
import Derived.Test.YtndiilfjeconbaaTelD5
namespace Go.Proofs.Ytndiilfjeconbaa.Tab
open Go.Sim
set_option maxRecDepth 100000
set_option linter.unusedSimpArgs false

def lenP (k L : Nat) (val : Nat → Int) : Prop :=
  match L with
  | 0 => True
  | 10 => val k = 0
  | n => (n : Int) ≤ val k

theorem c1 {val : Nat → Int} {f : Fact} (a : f.holds val) : Holds val [f] := holds_cons a holds_nil

theorem c2 {val : Nat → Int} {f g : Fact} (a : f.holds val) (b : g.holds val) : Holds val [f, g] := holds_cons a (c1 b)

theorem c3 {val : Nat → Int} {f g i : Fact} (a : f.holds val) (b : g.holds val) (c : i.holds val) : Holds val [f, g, i] := holds_cons a (c2 b c)

theorem tel_0_0 (M : Nat) (hM : M ≤ 10) (val : Nat → Int) (_ : lenP 2 0 val) (q : lenP 3 M val) (r : val 7 ≠ 0) : TelQ 0 0 M val :=
 match M, hM, q with
 | 0, _, _ => tel0_0_0 _ (c1 r)
 | 1, _, q => tel0_0_1 _ (c2 q r)
 | 2, _, q => tel0_0_2 _ (c2 q r)
 | 3, _, q => tel0_0_3 _ (c2 q r)
 | 4, _, q => tel0_0_4 _ (c2 q r)
 | 5, _, q => tel0_0_5 _ (c2 q r)
 | 6, _, q => tel0_0_6 _ (c2 q r)
 | 7, _, q => tel0_0_7 _ (c2 q r)
 | 8, _, q => tel0_0_8 _ (c2 q r)
 | 9, _, q => tel0_0_9 _ (c2 q r)
 | 10, _, q => tel0_0_10 _ (c2 q r)

theorem tel_0_7 (M : Nat) (hM : M ≤ 10) (val : Nat → Int) (_ : lenP 2 0 val) (q : lenP 3 M val) : TelQ 0 7 M val :=
 match M, hM, q with
 | 0, _, _ => tel0_7_0 _
 | 1, _, q => tel0_7_1 _ (c1 q)
 | 2, _, q => tel0_7_2 _ (c1 q)
 | 3, _, q => tel0_7_3 _ (c1 q)
 | 4, _, q => tel0_7_4 _ (c1 q)
 | 5, _, q => tel0_7_5 _ (c1 q)
 | 6, _, q => tel0_7_6 _ (c1 q)
 | 7, _, q => tel0_7_7 _ (c1 q)
 | 8, _, q => tel0_7_8 _ (c1 q)
 | 9, _, q => tel0_7_9 _ (c1 q)
 | 10, _, q => tel0_7_10 _ (c1 q)

theorem tel_10_0 (M : Nat) (hM : M ≤ 10) (val : Nat → Int) (p : lenP 2 10 val) (q : lenP 3 M val) (r : val 7 ≠ 0) : TelQ 10 0 M val :=
 match M, hM, q with
 | 0, _, _ => tel10_0_0 _ (c2 p r)
 | 1, _, q => tel10_0_1 _ (c3 p q r)
 | 2, _, q => tel10_0_2 _ (c3 p q r)
 | 3, _, q => tel10_0_3 _ (c3 p q r)
 | 4, _, q => tel10_0_4 _ (c3 p q r)
 | 5, _, q => tel10_0_5 _ (c3 p q r)
 | 6, _, q => tel10_0_6 _ (c3 p q r)
 | 7, _, q => tel10_0_7 _ (c3 p q r)
 | 8, _, q => tel10_0_8 _ (c3 p q r)
 | 9, _, q => tel10_0_9 _ (c3 p q r)
 | 10, _, q => tel10_0_10 _ (c3 p q r)

theorem tel_10_7 (M : Nat) (hM : M ≤ 10) (val : Nat → Int) (p : lenP 2 10 val) (q : lenP 3 M val) : TelQ 10 7 M val :=
 match M, hM, q with
 | 0, _, _ => tel10_7_0 _ (c1 p)
 | 1, _, q => tel10_7_1 _ (c2 p q)
 | 2, _, q => tel10_7_2 _ (c2 p q)
 | 3, _, q => tel10_7_3 _ (c2 p q)
 | 4, _, q => tel10_7_4 _ (c2 p q)
 | 5, _, q => tel10_7_5 _ (c2 p q)
 | 6, _, q => tel10_7_6 _ (c2 p q)
 | 7, _, q => tel10_7_7 _ (c2 p q)
 | 8, _, q => tel10_7_8 _ (c2 p q)
 | 9, _, q => tel10_7_9 _ (c2 p q)
 | 10, _, q => tel10_7_10 _ (c2 p q)

theorem tel_1_0 (M : Nat) (hM : M ≤ 10) (val : Nat → Int) (p : lenP 2 1 val) (q : lenP 3 M val) (r : val 7 ≠ 0) : TelQ 1 0 M val :=
 match M, hM, q with
 | 0, _, _ => tel1_0_0 _ (c2 p r)
 | 1, _, q => tel1_0_1 _ (c3 p q r)
 | 2, _, q => tel1_0_2 _ (c3 p q r)
 | 3, _, q => tel1_0_3 _ (c3 p q r)
 | 4, _, q => tel1_0_4 _ (c3 p q r)
 | 5, _, q => tel1_0_5 _ (c3 p q r)
 | 6, _, q => tel1_0_6 _ (c3 p q r)
 | 7, _, q => tel1_0_7 _ (c3 p q r)
 | 8, _, q => tel1_0_8 _ (c3 p q r)
 | 9, _, q => tel1_0_9 _ (c3 p q r)
 | 10, _, q => tel1_0_10 _ (c3 p q r)

theorem tel_1_1 (M : Nat) (hM : M ≤ 10) (val : Nat → Int) (p : lenP 2 1 val) (q : lenP 3 M val) : TelQ 1 1 M val :=
 match M, hM, q with
 | 0, _, _ => tel1_1_0 _ (c1 p)
 | 1, _, q => tel1_1_1 _ (c2 p q)
 | 2, _, q => tel1_1_2 _ (c2 p q)
 | 3, _, q => tel1_1_3 _ (c2 p q)
 | 4, _, q => tel1_1_4 _ (c2 p q)
 | 5, _, q => tel1_1_5 _ (c2 p q)
 | 6, _, q => tel1_1_6 _ (c2 p q)
 | 7, _, q => tel1_1_7 _ (c2 p q)
 | 8, _, q => tel1_1_8 _ (c2 p q)
 | 9, _, q => tel1_1_9 _ (c2 p q)
 | 10, _, q => tel1_1_10 _ (c2 p q)

theorem tel_2_0 (M : Nat) (hM : M ≤ 10) (val : Nat → Int) (p : lenP 2 2 val) (q : lenP 3 M val) (r : val 7 ≠ 0) : TelQ 2 0 M val :=
 match M, hM, q with
 | 0, _, _ => tel2_0_0 _ (c2 p r)
 | 1, _, q => tel2_0_1 _ (c3 p q r)
 | 2, _, q => tel2_0_2 _ (c3 p q r)
 | 3, _, q => tel2_0_3 _ (c3 p q r)
 | 4, _, q => tel2_0_4 _ (c3 p q r)
 | 5, _, q => tel2_0_5 _ (c3 p q r)
 | 6, _, q => tel2_0_6 _ (c3 p q r)
 | 7, _, q => tel2_0_7 _ (c3 p q r)
 | 8, _, q => tel2_0_8 _ (c3 p q r)
 | 9, _, q => tel2_0_9 _ (c3 p q r)
 | 10, _, q => tel2_0_10 _ (c3 p q r)

theorem tel_2_2 (M : Nat) (hM : M ≤ 10) (val : Nat → Int) (p : lenP 2 2 val) (q : lenP 3 M val) : TelQ 2 2 M val :=
 match M, hM, q with
 | 0, _, _ => tel2_2_0 _ (c1 p)
 | 1, _, q => tel2_2_1 _ (c2 p q)
 | 2, _, q => tel2_2_2 _ (c2 p q)
 | 3, _, q => tel2_2_3 _ (c2 p q)
 | 4, _, q => tel2_2_4 _ (c2 p q)
 | 5, _, q => tel2_2_5 _ (c2 p q)
 | 6, _, q => tel2_2_6 _ (c2 p q)
 | 7, _, q => tel2_2_7 _ (c2 p q)
 | 8, _, q => tel2_2_8 _ (c2 p q)
 | 9, _, q => tel2_2_9 _ (c2 p q)
 | 10, _, q => tel2_2_10 _ (c2 p q)

theorem tel_2_5 (M : Nat) (hM : M ≤ 10) (val : Nat → Int) (p : lenP 2 2 val) (q : lenP 3 M val) : TelQ 2 5 M val :=
 match M, hM, q with
 | 0, _, _ => tel2_5_0 _ (c1 p)
 | 1, _, q => tel2_5_1 _ (c2 p q)
 | 2, _, q => tel2_5_2 _ (c2 p q)
 | 3, _, q => tel2_5_3 _ (c2 p q)
 | 4, _, q => tel2_5_4 _ (c2 p q)
 | 5, _, q => tel2_5_5 _ (c2 p q)
 | 6, _, q => tel2_5_6 _ (c2 p q)
 | 7, _, q => tel2_5_7 _ (c2 p q)
 | 8, _, q => tel2_5_8 _ (c2 p q)
 | 9, _, q => tel2_5_9 _ (c2 p q)
 | 10, _, q => tel2_5_10 _ (c2 p q)

theorem tel_2_6 (M : Nat) (hM : M ≤ 10) (val : Nat → Int) (p : lenP 2 2 val) (q : lenP 3 M val) : TelQ 2 6 M val :=
 match M, hM, q with
 | 0, _, _ => tel2_6_0 _ (c1 p)
 | 1, _, q => tel2_6_1 _ (c2 p q)
 | 2, _, q => tel2_6_2 _ (c2 p q)
 | 3, _, q => tel2_6_3 _ (c2 p q)
 | 4, _, q => tel2_6_4 _ (c2 p q)
 | 5, _, q => tel2_6_5 _ (c2 p q)
 | 6, _, q => tel2_6_6 _ (c2 p q)
 | 7, _, q => tel2_6_7 _ (c2 p q)
 | 8, _, q => tel2_6_8 _ (c2 p q)
 | 9, _, q => tel2_6_9 _ (c2 p q)
 | 10, _, q => tel2_6_10 _ (c2 p q)

theorem tel_3_0 (M : Nat) (hM : M ≤ 10) (val : Nat → Int) (p : lenP 2 3 val) (q : lenP 3 M val) (r : val 7 ≠ 0) : TelQ 3 0 M val :=
 match M, hM, q with
 | 0, _, _ => tel3_0_0 _ (c2 p r)
 | 1, _, q => tel3_0_1 _ (c3 p q r)
 | 2, _, q => tel3_0_2 _ (c3 p q r)
 | 3, _, q => tel3_0_3 _ (c3 p q r)
 | 4, _, q => tel3_0_4 _ (c3 p q r)
 | 5, _, q => tel3_0_5 _ (c3 p q r)
 | 6, _, q => tel3_0_6 _ (c3 p q r)
 | 7, _, q => tel3_0_7 _ (c3 p q r)
 | 8, _, q => tel3_0_8 _ (c3 p q r)
 | 9, _, q => tel3_0_9 _ (c3 p q r)
 | 10, _, q => tel3_0_10 _ (c3 p q r)

theorem tel_3_3 (M : Nat) (hM : M ≤ 10) (val : Nat → Int) (p : lenP 2 3 val) (q : lenP 3 M val) : TelQ 3 3 M val :=
 match M, hM, q with
 | 0, _, _ => tel3_3_0 _ (c1 p)
 | 1, _, q => tel3_3_1 _ (c2 p q)
 | 2, _, q => tel3_3_2 _ (c2 p q)
 | 3, _, q => tel3_3_3 _ (c2 p q)
 | 4, _, q => tel3_3_4 _ (c2 p q)
 | 5, _, q => tel3_3_5 _ (c2 p q)
 | 6, _, q => tel3_3_6 _ (c2 p q)
 | 7, _, q => tel3_3_7 _ (c2 p q)
 | 8, _, q => tel3_3_8 _ (c2 p q)
 | 9, _, q => tel3_3_9 _ (c2 p q)
 | 10, _, q => tel3_3_10 _ (c2 p q)

theorem tel_4_0 (M : Nat) (hM : M ≤ 10) (val : Nat → Int) (p : lenP 2 4 val) (q : lenP 3 M val) (r : val 7 ≠ 0) : TelQ 4 0 M val :=
 match M, hM, q with
 | 0, _, _ => tel4_0_0 _ (c2 p r)
 | 1, _, q => tel4_0_1 _ (c3 p q r)
 | 2, _, q => tel4_0_2 _ (c3 p q r)
 | 3, _, q => tel4_0_3 _ (c3 p q r)
 | 4, _, q => tel4_0_4 _ (c3 p q r)
 | 5, _, q => tel4_0_5 _ (c3 p q r)
 | 6, _, q => tel4_0_6 _ (c3 p q r)
 | 7, _, q => tel4_0_7 _ (c3 p q r)
 | 8, _, q => tel4_0_8 _ (c3 p q r)
 | 9, _, q => tel4_0_9 _ (c3 p q r)
 | 10, _, q => tel4_0_10 _ (c3 p q r)

theorem tel_4_4 (M : Nat) (hM : M ≤ 10) (val : Nat → Int) (p : lenP 2 4 val) (q : lenP 3 M val) : TelQ 4 4 M val :=
 match M, hM, q with
 | 0, _, _ => tel4_4_0 _ (c1 p)
 | 1, _, q => tel4_4_1 _ (c2 p q)
 | 2, _, q => tel4_4_2 _ (c2 p q)
 | 3, _, q => tel4_4_3 _ (c2 p q)
 | 4, _, q => tel4_4_4 _ (c2 p q)
 | 5, _, q => tel4_4_5 _ (c2 p q)
 | 6, _, q => tel4_4_6 _ (c2 p q)
 | 7, _, q => tel4_4_7 _ (c2 p q)
 | 8, _, q => tel4_4_8 _ (c2 p q)
 | 9, _, q => tel4_4_9 _ (c2 p q)
 | 10, _, q => tel4_4_10 _ (c2 p q)

theorem tel_5_0 (M : Nat) (hM : M ≤ 10) (val : Nat → Int) (p : lenP 2 5 val) (q : lenP 3 M val) (r : val 7 ≠ 0) : TelQ 5 0 M val :=
 match M, hM, q with
 | 0, _, _ => tel5_0_0 _ (c2 p r)
 | 1, _, q => tel5_0_1 _ (c3 p q r)
 | 2, _, q => tel5_0_2 _ (c3 p q r)
 | 3, _, q => tel5_0_3 _ (c3 p q r)
 | 4, _, q => tel5_0_4 _ (c3 p q r)
 | 5, _, q => tel5_0_5 _ (c3 p q r)
 | 6, _, q => tel5_0_6 _ (c3 p q r)
 | 7, _, q => tel5_0_7 _ (c3 p q r)
 | 8, _, q => tel5_0_8 _ (c3 p q r)
 | 9, _, q => tel5_0_9 _ (c3 p q r)
 | 10, _, q => tel5_0_10 _ (c3 p q r)

theorem tel_6_0 (M : Nat) (hM : M ≤ 10) (val : Nat → Int) (p : lenP 2 6 val) (q : lenP 3 M val) (r : val 7 ≠ 0) : TelQ 6 0 M val :=
 match M, hM, q with
 | 0, _, _ => tel6_0_0 _ (c2 p r)
 | 1, _, q => tel6_0_1 _ (c3 p q r)
 | 2, _, q => tel6_0_2 _ (c3 p q r)
 | 3, _, q => tel6_0_3 _ (c3 p q r)
 | 4, _, q => tel6_0_4 _ (c3 p q r)
 | 5, _, q => tel6_0_5 _ (c3 p q r)
 | 6, _, q => tel6_0_6 _ (c3 p q r)
 | 7, _, q => tel6_0_7 _ (c3 p q r)
 | 8, _, q => tel6_0_8 _ (c3 p q r)
 | 9, _, q => tel6_0_9 _ (c3 p q r)
 | 10, _, q => tel6_0_10 _ (c3 p q r)

theorem tel_7_0 (M : Nat) (hM : M ≤ 10) (val : Nat → Int) (p : lenP 2 7 val) (q : lenP 3 M val) (r : val 7 ≠ 0) : TelQ 7 0 M val :=
 match M, hM, q with
 | 0, _, _ => tel7_0_0 _ (c2 p r)
 | 1, _, q => tel7_0_1 _ (c3 p q r)
 | 2, _, q => tel7_0_2 _ (c3 p q r)
 | 3, _, q => tel7_0_3 _ (c3 p q r)
 | 4, _, q => tel7_0_4 _ (c3 p q r)
 | 5, _, q => tel7_0_5 _ (c3 p q r)
 | 6, _, q => tel7_0_6 _ (c3 p q r)
 | 7, _, q => tel7_0_7 _ (c3 p q r)
 | 8, _, q => tel7_0_8 _ (c3 p q r)
 | 9, _, q => tel7_0_9 _ (c3 p q r)
 | 10, _, q => tel7_0_10 _ (c3 p q r)

theorem tel_8_0 (M : Nat) (hM : M ≤ 10) (val : Nat → Int) (p : lenP 2 8 val) (q : lenP 3 M val) (r : val 7 ≠ 0) : TelQ 8 0 M val :=
 match M, hM, q with
 | 0, _, _ => tel8_0_0 _ (c2 p r)
 | 1, _, q => tel8_0_1 _ (c3 p q r)
 | 2, _, q => tel8_0_2 _ (c3 p q r)
 | 3, _, q => tel8_0_3 _ (c3 p q r)
 | 4, _, q => tel8_0_4 _ (c3 p q r)
 | 5, _, q => tel8_0_5 _ (c3 p q r)
 | 6, _, q => tel8_0_6 _ (c3 p q r)
 | 7, _, q => tel8_0_7 _ (c3 p q r)
 | 8, _, q => tel8_0_8 _ (c3 p q r)
 | 9, _, q => tel8_0_9 _ (c3 p q r)
 | 10, _, q => tel8_0_10 _ (c3 p q r)

theorem tel_9_0 (M : Nat) (hM : M ≤ 10) (val : Nat → Int) (p : lenP 2 9 val) (q : lenP 3 M val) (r : val 7 ≠ 0) : TelQ 9 0 M val :=
 match M, hM, q with
 | 0, _, _ => tel9_0_0 _ (c2 p r)
 | 1, _, q => tel9_0_1 _ (c3 p q r)
 | 2, _, q => tel9_0_2 _ (c3 p q r)
 | 3, _, q => tel9_0_3 _ (c3 p q r)
 | 4, _, q => tel9_0_4 _ (c3 p q r)
 | 5, _, q => tel9_0_5 _ (c3 p q r)
 | 6, _, q => tel9_0_6 _ (c3 p q r)
 | 7, _, q => tel9_0_7 _ (c3 p q r)
 | 8, _, q => tel9_0_8 _ (c3 p q r)
 | 9, _, q => tel9_0_9 _ (c3 p q r)
 | 10, _, q => tel9_0_10 _ (c3 p q r)

theorem telErr (L M : Nat) (hL : L ≤ 10) (hM : M ≤ 10) (val : Nat → Int) (h2 : lenP 2 L val) (h3 : lenP 3 M val) (h7 : val 7 ≠ 0) : TelQ L 0 M val := by
  match L, hL, h2 with
  | 0, _, h2 => exact tel_0_0 M hM val h2 h3 h7
  | 1, _, h2 => exact tel_1_0 M hM val h2 h3 h7
  | 2, _, h2 => exact tel_2_0 M hM val h2 h3 h7
  | 3, _, h2 => exact tel_3_0 M hM val h2 h3 h7
  | 4, _, h2 => exact tel_4_0 M hM val h2 h3 h7
  | 5, _, h2 => exact tel_5_0 M hM val h2 h3 h7
  | 6, _, h2 => exact tel_6_0 M hM val h2 h3 h7
  | 7, _, h2 => exact tel_7_0 M hM val h2 h3 h7
  | 8, _, h2 => exact tel_8_0 M hM val h2 h3 h7
  | 9, _, h2 => exact tel_9_0 M hM val h2 h3 h7
  | 10, _, h2 => exact tel_10_0 M hM val h2 h3 h7

theorem telZ (L M : Nat) (hL : L = 0 ∨ L = 10) (hM : M ≤ 10) (val : Nat → Int) (h2 : lenP 2 L val) (h3 : lenP 3 M val) : TelQ L 7 M val := by
  rcases hL with rfl | rfl
  · exact tel_0_7 M hM val h2 h3
  · exact tel_10_7 M hM val h2 h3

theorem telF (L fm M : Nat) (hL : 1 ≤ L ∧ L ≤ 4) (hf : fmB L fm = true) (hM : M ≤ 10) (val : Nat → Int) (h2 : lenP 2 L val) (h3 : lenP 3 M val) : TelQ L fm M val := by
  have hL' : L = 1 ∨ L = 2 ∨ L = 3 ∨ L = 4 := by omega
  have hf' : fm = L ∨ (L = 2 ∧ (fm = 5 ∨ fm = 6)) := by
    unfold fmB at hf
    simp only [Bool.or_eq_true, Bool.and_eq_true] at hf
    rcases hf with h | ⟨h, h' | h'⟩
    · exact .inl (Nat.eq_of_beq_eq_true h)
    · exact .inr ⟨Nat.eq_of_beq_eq_true h, .inl (Nat.eq_of_beq_eq_true h')⟩
    · exact .inr ⟨Nat.eq_of_beq_eq_true h, .inr (Nat.eq_of_beq_eq_true h')⟩
  rcases hf' with rfl | ⟨rfl, rfl | rfl⟩
  · rcases hL' with rfl | rfl | rfl | rfl
    · exact tel_1_1 M hM val h2 h3
    · exact tel_2_2 M hM val h2 h3
    · exact tel_3_3 M hM val h2 h3
    · exact tel_4_4 M hM val h2 h3
  · exact tel_2_5 M hM val h2 h3
  · exact tel_2_6 M hM val h2 h3

theorem nine {L : Nat} (h : 1 ≤ L ∧ L ≤ 9) : L = 1 ∨ L = 2 ∨ L = 3 ∨ L = 4 ∨ L = 5 ∨ L = 6 ∨ L = 7 ∨ L = 8 ∨ L = 9 := by omega

theorem up_concs {I : Syms} {zs : List Int} {c n : Nat} (hl : zs.length = n) (h : ∀ i, i < n → I.val (c + i) = zs.getD i 0) (E : Env) : @concs I E (sxs (upX c n)) = zs.map (Value.int .i64) := by
  have hY : (upX c n).map (SX.eval I.val) = zs := upX_map hl (fun i hi => h i (by omega))
  rw [sxs_concs hY E, @concs_eq I0, cK, List.map_map]
  apply List.map_congr_left
  intro z _
  simp only [Function.comp_apply, conc]

def TokT (val : Nat → Int) (c L : Nat) (zs : List Int) : Prop := ((L = 0 ∨ L = 10) ∧ zs = []) ∨ ((1 ≤ L ∧ L ≤ 9) ∧ zs.length = 11 * L ∧ ∀ i, i < 11 * L → val (c + i) = zs.getD i 0)

theorem patsT_n {c o L : Nat} (h : 1 ≤ L ∧ L ≤ 9) : patsT c o L = [.ag [.av (a o), .sl 11 (sxs (upX c (11 * L)))]] := by
  have h' := nine (by omega : 1 ≤ L ∧ L ≤ 9)
  rcases h' with rfl | rfl | rfl | rfl | rfl | rfl | rfl | rfl | rfl <;> rfl

theorem patsT_z {c o L : Nat} (h : L = 0 ∨ L = 10) : patsT c o L = [.ag [.av (a o), .av nilS], .ag [.av (a o), .em]] := by
  rcases h with rfl | rfl <;> rfl

theorem pN_of {val : Nat → Int} {sla : Nat → Option Addr × Nat} {o : Nat} {op : Int} (hop : val o = op) {w : World} {v : Value} (h : @PtOf (nameS val sla) w (.ag [.av (a o), .av nilS]) v) : v = insV op (.slice none 0 0) := by
  obtain ⟨vs, rfl, y, ys, rfl, h1, ⟨z, zs', rfl, h2, rfl⟩⟩ := h
  have h1 : y = .int .i64 (val o) := h1
  have h2 : z = .slice none 0 0 := h2
  rw [h1, h2, hop]

theorem pE_of {val : Nat → Int} {sla : Nat → Option Addr × Nat} {o : Nat} {op : Int} (hop : val o = op) {w : World} {v : Value} (h : @PtOf (nameS val sla) w (.ag [.av (a o), .em]) v) : ∃ ad cap, v = insV op (.slice (some ad) 0 cap) := by
  obtain ⟨vs, rfl, y, ys, rfl, h1, ⟨z, zs', rfl, ⟨ad, cap, h2⟩, rfl⟩⟩ := h
  have h1 : y = .int .i64 (val o) := h1
  exact ⟨ad, cap, by rw [h1, h2, hop]⟩

theorem patsT_of {val : Nat → Int} {sla : Nat → Option Addr × Nat} {c o L : Nat} {op : Int} {zs : List Int} (hop : val o = op) (ht : TokT val c L zs) : ∀ p ∈ patsT c o L, ∀ w v, @PtOf (nameS val sla) w p v → ∃ x, v = insV op x ∧ SliV w x zs := by
  intro p hp w v hv
  rcases ht with ⟨hL, rfl⟩ | ⟨hL, hl, hc⟩
  · rw [patsT_z hL] at hp
    simp only [List.mem_cons, List.not_mem_nil, or_false] at hp
    rcases hp with rfl | rfl
    · exact ⟨_, pN_of hop hv, .inl ⟨rfl, .inl rfl⟩⟩
    · obtain ⟨ad, cap, h⟩ := pE_of hop hv
      exact ⟨_, h, .inl ⟨rfl, .inr ⟨ad, cap, rfl⟩⟩⟩
  · rw [patsT_n hL] at hp
    simp only [List.mem_cons, List.not_mem_nil, or_false] at hp
    subst hp
    obtain ⟨vs, rfl, y, ys, rfl, h1, ⟨z, zs', rfl, h2, rfl⟩⟩ := hv
    have h1 : y = .int .i64 (val o) := h1
    have h2 : SlOf w 11 z (@concs (nameS val sla) E0 (sxs (upX c (11 * L)))) := h2
    rw [up_concs (I := nameS val sla) hl hc] at h2
    exact ⟨z, by rw [h1, hop], .inr h2⟩

theorem one_of {I : Syms} {w : World} {p : Pt} {vs : List Value} (h : @PtsOf I w [p] vs) : ∃ v, vs = [v] ∧ @PtOf I w p v := by
  obtain ⟨v, us, rfl, h1, rfl⟩ := h
  exact ⟨v, rfl, h1⟩

theorem two_of {I : Syms} {w : World} {p q : Pt} {vs : List Value} (h : @PtsOf I w [p, q] vs) : ∃ v u, vs = [v, u] ∧ @PtOf I w p v ∧ @PtOf I w q u := by
  obtain ⟨v, us, rfl, h1, ⟨u, us', rfl, h2, rfl⟩⟩ := h
  exact ⟨v, u, rfl, h1, h2⟩

def CanT (op : Int) (zs : List Int) (L fm : Nat) (e : Int) (cells : List Int) : Prop :=
  (fm = 0 ∧ e ≠ 0 ∧ RI 16 op zs (errK e) ∧ RI 17 op zs (errK e)) ∨ (fm = 7 ∧ e = 0 ∧ (L = 0 ∨ L = 10) ∧ CanZ op) ∨ ((1 ≤ fm ∧ fm ≤ 6) ∧ e = 0 ∧ CanR fm op zs cells)

theorem meT_ok {val : Nat → Int} {sla : Nat → Option Addr × Nat} {L fm M : Nat} {op op' : Int} {zs zs' : List Int} {e : Int} {cells : List Int} {p : Bool} (hop : val 0 = op) (hop' : val 1 = op') (ht : TokT val 200 L zs) (ht' : TokT val 400 M zs') (h7 : val 7 = e) (h8 : (val 8 == 1) = p)
    (hB : RI 12 op zs (.tuple #[.int .i64 (val 5), .bool (val 6 == 1)]) ∧ RI 18 op zs (.tuple #[.int .i64 (val 5), .bool (val 6 == 1)])) (hC : RI 11 op zs (.int .i64 e) ∧ RI 19 op zs (.int .i64 e)) (hK : CanT op zs L fm e cells) (hcells : ∀ i, i < cells.length → val (100 + i) = cells.getD i 0)
    (hS : SameR op zs op' zs' p) : MTabOK Try.prog val sla (meT L fm M) := by
  have pA := patsT_of (sla := sla) hop ht
  have pB := patsT_of (sla := sla) hop' ht'
  have plain1 : ∀ (q : Pt), q ∈ patsT 200 0 L → ∀ (f : FuncId) (v : Value) (v0 : AV), RI f op zs v → v = @conc (nameS val sla) E0 v0 → ∀ w vs, @PtsOf (nameS val sla) w [q] vs → @SummV (nameS val sla) Try.prog f vs v0 [] w := by
    intro q hq f v v0 hf hv w vs hvs
    obtain ⟨u, rfl, hu⟩ := one_of hvs
    obtain ⟨x, rfl, hx⟩ := pA q hq w u hu
    exact @summV_plain Try.prog (nameS val sla) f _ v0 v w hv (hf w x hx)
  intro m hm
  rcases List.mem_append.1 hm with hm | hm
  · obtain ⟨q, hq, hm⟩ := List.mem_flatMap.1 hm
    have he : Value.int .i64 e = @conc (nameS val sla) E0 (cond (Nat.beq fm 0) (a 7) (ci 0)) := by
      rcases hK with ⟨rfl, _⟩ | ⟨rfl, h, _⟩ | ⟨hf, h, _⟩
      · show _ = Value.int .i64 (val 7); rw [h7]
      · rw [h]; rfl
      · have : Nat.beq fm 0 = false := by
          cases hb : Nat.beq fm 0 with
          | true => have := Nat.eq_of_beq_eq_true hb; omega
          | false => rfl
        rw [this, h]; rfl
    simp only [plainT, List.mem_cons, List.not_mem_nil, or_false] at hm
    rcases hm with rfl | rfl | rfl | rfl
    · exact plain1 q hq 12 _ _ hB.1 (by simp only [conc, concs]; rfl)
    · exact plain1 q hq 18 _ _ hB.2 (by simp only [conc, concs]; rfl)
    · exact plain1 q hq 11 _ _ hC.1 he
    · exact plain1 q hq 19 _ _ hC.2 he
  rcases List.mem_append.1 hm with hm | hm
  · rcases hK with ⟨rfl, _, k1, k2⟩ | ⟨rfl, _, hL, k1⟩ | ⟨hf, _, k1⟩
    · obtain ⟨q, hq, hm⟩ := List.mem_flatMap.1 (show m ∈ (patsT 200 0 L).flatMap fun p => [(⟨16, [p], errO 7, []⟩ : ME), ⟨17, [p], errO 7, []⟩] from hm)
      have he : errK e = @conc (nameS val sla) E0 (errO 7) := by
        simp only [errO, conc, concs]
        rw [← h7]
        rfl
      simp only [List.mem_cons, List.not_mem_nil, or_false] at hm
      rcases hm with rfl | rfl
      · exact plain1 q hq 16 _ _ k1 he
      · exact plain1 q hq 17 _ _ k2 he
    · rw [patsT_z hL] at hm
      simp only [canT, List.mem_cons, List.not_mem_nil, or_false] at hm
      rcases hm with rfl | rfl | rfl | rfl <;> intro w vs hvs <;> obtain ⟨u, rfl, hu⟩ := one_of hvs
      · rw [pN_of hop hu]; exact nB_back (I := nameS val sla) hop (k1 w).1
      · rw [pN_of hop hu]; exact nB_back (I := nameS val sla) hop (k1 w).2.1
      · obtain ⟨ad, cap, h⟩ := pE_of hop hu; rw [h]; exact eB_back (I := nameS val sla) hop ((k1 w).2.2 ad cap).1
      · obtain ⟨ad, cap, h⟩ := pE_of hop hu; rw [h]; exact nB_back (I := nameS val sla) hop ((k1 w).2.2 ad cap).2
    · have hY : (upX 100 (11 * fmLen fm)).map (SX.eval val) = cells := upX_map k1.1 hcells
      have e1 : canT fm (patsT 200 0 L) = (patsT 200 0 L).flatMap fun p => [⟨16, [p], (f16 fm (a 0) (sxs (upX 100 (11 * fmLen fm)))).1, (f16 fm (a 0) (sxs (upX 100 (11 * fmLen fm)))).2⟩, ⟨17, [p], (f17 fm (a 0) (sxs (upX 100 (11 * fmLen fm)))).1, (f17 fm (a 0) (sxs (upX 100 (11 * fmLen fm)))).2⟩] := by
        have hf' : fm = 1 ∨ fm = 2 ∨ fm = 3 ∨ fm = 4 ∨ fm = 5 ∨ fm = 6 := by omega
        rcases hf' with rfl | rfl | rfl | rfl | rfl | rfl <;> rfl
      rw [e1] at hm
      obtain ⟨q, hq, hm⟩ := List.mem_flatMap.1 hm
      simp only [List.mem_cons, List.not_mem_nil, or_false] at hm
      rcases hm with rfl | rfl <;> intro w vs hvs <;> obtain ⟨u, rfl, hu⟩ := one_of hvs <;> obtain ⟨x, rfl, hx⟩ := pA q hq w u hu
      · exact f16_back (I := nameS val sla) fm hop hY (k1.2 w x hx).1
      · exact f17_back (I := nameS val sla) fm hop hY (k1.2 w x hx).2
  · obtain ⟨q, hq, hm⟩ := List.mem_flatMap.1 hm
    obtain ⟨q', hq', hm⟩ := List.mem_flatMap.1 hm
    have hv : Value.bool p = @conc (nameS val sla) E0 (bo 8) := by
      simp only [conc, SB.eval, SX.eval]
      rw [← h8]
      rfl
    simp only [sameT, List.mem_cons, List.not_mem_nil, or_false] at hm
    rcases hm with rfl | rfl <;> intro w vs hvs <;> obtain ⟨u, u', rfl, hu, hu'⟩ := two_of hvs <;> obtain ⟨x, rfl, hx⟩ := pA q hq w u hu <;> obtain ⟨x', rfl, hx'⟩ := pB q' hq' w u' hu'
    · exact @summV_plain Try.prog (nameS val sla) 14 _ (bo 8) (.bool p) w hv (hS w x x' hx hx').1
    · exact @summV_plain Try.prog (nameS val sla) 21 _ (bo 8) (.bool p) w hv (hS w x x' hx hx').2

def TokX (w : World) (x : Value) (L : Nat) (zs : List Int) (b off cap : Nat) (ad : Addr) : Prop :=
  (L = 0 ∧ zs = [] ∧ x = .slice none 0 0) ∨ (L = 10 ∧ zs = [] ∧ x = .slice (some ad) 0 cap) ∨
  ((1 ≤ L ∧ L ≤ 9) ∧ zs.length = 11 * L ∧ x = .slice (some ⟨b, off, none⟩) L cap ∧ L ≤ cap ∧ b < w.heap.size ∧ (∀ (i : Nat) (m : Int), zs[i]? = some m → w.cell? ⟨b, off + i, none⟩ = some (.int .i64 m)) ∧ ∀ m ∈ zs, (Lit.int .i64 m).wf = true)

theorem tokX_of {w : World} {x : Value} (h : Sim.RowsIn w 11 x) : (∃ (n : Nat) (s : Option Addr × Nat), x = .slice s.1 n s.2) ∧ ((∃ (n : Nat) (s : Option Addr × Nat), 10 ≤ n ∧ x = .slice s.1 n s.2) ∨ ∃ L zs b off cap ad, TokX w x L zs b off cap ad) := by
  rcases h with rfl | ⟨ad, cap, rfl⟩ | ⟨b, off, len, cap, zs, h0, rfl, h1, h2, h3, h4, h5⟩
  · exact ⟨⟨0, (none, 0), rfl⟩, .inr ⟨0, [], 0, 0, 0, ⟨0, 0, none⟩, .inl ⟨rfl, rfl, rfl⟩⟩⟩
  · exact ⟨⟨0, (some ad, cap), rfl⟩, .inr ⟨10, [], 0, 0, cap, ad, .inr (.inl ⟨rfl, rfl, rfl⟩)⟩⟩
  · refine ⟨⟨len, (some ⟨b, off, none⟩, cap), rfl⟩, ?_⟩
    by_cases h9 : len ≤ 9
    · exact .inr ⟨len, zs, b, off, cap, ⟨0, 0, none⟩, .inr (.inr ⟨⟨h0, h9⟩, by omega, rfl, h1, h3, h4, h5⟩)⟩
    · exact .inl ⟨len, (some ⟨b, off, none⟩, cap), by omega, rfl⟩

def numT (L : Nat) : Nat :=
  match L with
  | 10 => 0
  | n => n

theorem tokX_nums {w : World} {x : Value} {L : Nat} {zs : List Int} {b off cap : Nat} {ad : Addr} (h : TokX w x L zs b off cap ad) : L ≤ 10 ∧ numT L ≤ 9 ∧ zs.length = 11 * numT L ∧ ∀ k : Nat, In64 (zs.getD k 0) := by
  have z0 : ∀ k : Nat, In64 (([] : List Int).getD k 0) := fun k => by rw [show ([] : List Int).getD k 0 = 0 by simp]; exact ⟨by decide, by decide⟩
  rcases h with ⟨rfl, rfl, _⟩ | ⟨rfl, rfl, _⟩ | ⟨hL, hl, _, _, _, _, h6⟩
  · exact ⟨by omega, by decide, rfl, z0⟩
  · exact ⟨by omega, by decide, rfl, z0⟩
  · have e : numT L = L := by
      have h' := nine (by omega : 1 ≤ L ∧ L ≤ 9)
      rcases h' with rfl | rfl | rfl | rfl | rfl | rfl | rfl | rfl | rfl <;> rfl
    rw [e]
    refine ⟨by omega, by omega, hl, fun k => ?_⟩
    rw [List.getD_eq_getElem?_getD]
    cases hm : zs[k]? with
    | none => exact ⟨by decide, by decide⟩
    | some m =>
      have h' : (decide (IntKind.i64.min ≤ m) && decide (m ≤ IntKind.i64.max)) = true := h6 m (List.mem_of_getElem? hm)
      simp only [Bool.and_eq_true, decide_eq_true_eq] at h'
      exact h'

def capT (L cap : Nat) : Int :=
  match L with
  | 0 => 0
  | 10 => 0
  | _ => cap

theorem argT_n {b o k L : Nat} (h : 1 ≤ L ∧ L ≤ 9) : argT b o k L = .agg [a o, .os b 0 L k 0] := by
  have h' := nine (by omega : 1 ≤ L ∧ L ≤ 9)
  rcases h' with rfl | rfl | rfl | rfl | rfl | rfl | rfl | rfl | rfl <;> rfl

theorem outT_n {c L : Nat} (h : 1 ≤ L ∧ L ≤ 9) : outT c L = [(11, sxs (upX c (11 * L)))] := by
  have h' := nine (by omega : 1 ≤ L ∧ L ≤ 9)
  rcases h' with rfl | rfl | rfl | rfl | rfl | rfl | rfl | rfl | rfl <;> rfl

theorem capT_n {L cap : Nat} (h : 1 ≤ L ∧ L ≤ 9) : capT L cap = cap := by
  have h' := nine (by omega : 1 ≤ L ∧ L ≤ 9)
  rcases h' with rfl | rfl | rfl | rfl | rfl | rfl | rfl | rfl | rfl <;> rfl

theorem bOf_n {L : Nat} (h : 1 ≤ L ∧ L ≤ 9) : bOf' L = 1 := by
  have h' := nine (by omega : 1 ≤ L ∧ L ≤ 9)
  rcases h' with rfl | rfl | rfl | rfl | rfl | rfl | rfl | rfl | rfl <;> rfl

theorem argT_conc {val : Nat → Int} {sla : Nat → Option Addr × Nat} {E : Env} {w : World} {x : Value} {L b off cap i o k : Nat} {zs : List Int} {ad : Addr} {op : Int} (h : TokX w x L zs b off cap ad) (hop : val o = op) (hk : val k = capT L cap) (hs : sla k = (some ad, cap)) (hE : 1 ≤ L ∧ L ≤ 9 → E.ρ i = b ∧ E.κ i = off) :
    @conc (nameS val sla) E (argT i o k L) = insV op x := by
  rcases h with ⟨rfl, _, rfl⟩ | ⟨rfl, _, rfl⟩ | ⟨hL, _, rfl, _⟩
  · show @conc (nameS val sla) E (.agg [a o, nilS]) = _
    simp only [conc, concs]
    show Value.agg #[.int .i64 (val o), _] = _
    rw [hop]
  · show @conc (nameS val sla) E (.agg [a o, .osl k]) = _
    simp only [conc, concs]
    show Value.agg #[.int .i64 (val o), .slice (sla k).1 (val k).toNat (sla k).2] = _
    rw [hop, hk, hs]
    rfl
  · rw [argT_n hL]
    simp only [conc, concs]
    show Value.agg #[.int .i64 (val o), .slice (some ⟨E.ρ i, E.κ i + 0, none⟩) L ((val k).toNat - 0)] = _
    rw [hop, hk, capT_n hL, (hE hL).1, (hE hL).2]
    rfl

theorem outT_ok {val : Nat → Int} {sla : Nat → Option Addr × Nat} {E : Env} {w : World} {x : Value} {L b off cap i c : Nat} {zs : List Int} {ad : Addr} (h : TokX w x L zs b off cap ad) (hc : ∀ i, i < 11 * L → L ≤ 9 → val (c + i) = zs.getD i 0) (hE : 1 ≤ L ∧ L ≤ 9 → E.ρ i = b ∧ E.κ i = off)
    (hL : 1 ≤ L ∧ L ≤ 9) {o : Nat × List AV} (ho : o = (11, sxs (upX c (11 * L)))) : E.ρ i < w.heap.size ∧ (o.1 ≠ 0 → ∀ (j : Nat) (v : AV), o.2[j]? = some v → w.cell? ⟨E.ρ i, E.κ i + j, none⟩ = some (@conc (nameS val sla) E v)) ∧ ∀ ki k1 n1, o = (0, [.row ki k1 n1]) → @RowOK (nameS val sla) E w i ki k1 n1 := by
  rcases h with ⟨rfl, _⟩ | ⟨rfl, _⟩ | ⟨_, hl, _, _, h4, h5, _⟩
  · omega
  · omega
  · subst ho
    obtain ⟨e1, e2⟩ := hE hL
    refine ⟨by rw [e1]; exact h4, fun _ j v hj => ?_, fun ki k1 n1 he => by simp at he⟩
    have hj : (sxs (upX c (11 * L)))[j]? = some v := hj
    have hcc := up_concs (I := nameS val sla) hl (fun i hi => hc i hi hL.2) E
    have e3 : (zs.map (Value.int .i64))[j]? = some (@conc (nameS val sla) E v) := by rw [← hcc, @concs_eq (nameS val sla), List.getElem?_map, hj]; rfl
    rw [List.getElem?_map] at e3
    cases hm : zs[j]? with
    | none => rw [hm] at e3; cases e3
    | some m => rw [hm] at e3; rw [← Option.some.inj e3, e1, e2]; exact h5 j m hm

abbrev valU (o0 o1 c0 c1 b s e p : Int) (q z0 z1 : List Int) : Nat → Int := fun k =>
  if k < 100 then [o0, o1, c0, c1, 0, b, s, e, p].getD k 0 else if k < 200 then q.getD (k - 100) 0 else if k < 400 then z0.getD (k - 200) 0 else z1.getD (k - 400) 0

theorem lenP_of {w : World} {x : Value} {L : Nat} {zs : List Int} {b off cap k : Nat} {ad : Addr} {val : Nat → Int} (h : TokX w x L zs b off cap ad) (hk : val k = capT L cap) : lenP k L val := by
  rcases h with ⟨rfl, _⟩ | ⟨rfl, _⟩ | ⟨hL, _, _, h4, _⟩
  · trivial
  · exact hk
  · rw [capT_n hL] at hk
    have h' := nine (by omega : 1 ≤ L ∧ L ≤ 9)
    rcases h' with rfl | rfl | rfl | rfl | rfl | rfl | rfl | rfl | rfl <;> (show _ ≤ val k; rw [hk]; omega)

theorem tokT_of {w : World} {x : Value} {L : Nat} {zs : List Int} {b off cap c : Nat} {ad : Addr} {val : Nat → Int} (h : TokX w x L zs b off cap ad) (hc : ∀ i, i < 11 * L → L ≤ 9 → val (c + i) = zs.getD i 0) : TokT val c L zs := by
  rcases h with ⟨rfl, h, _⟩ | ⟨rfl, h, _⟩ | ⟨hL, hl, _⟩
  · exact .inl ⟨.inl rfl, h⟩
  · exact .inl ⟨.inr rfl, h⟩
  · exact .inr ⟨hL, hl, fun i hi => hc i hi hL.2⟩

end Go.Proofs.Ytndiilfjeconbaa.Tab
namespace Go.Proofs.Ytndiilfjeconbaa.instTells
open Go.Sim Go.Proofs.Ytndiilfjeconbaa.Tab
set_option linter.unusedSimpArgs false

theorem walk (o0 : Int) (_ : (Lit.int .i64 o0).wf = true) (x0 : Value) (o1 : Int) (_ : (Lit.int .i64 o1).wf = true) (x1 : Value) (w : World) (h0 : Sim.RowsIn w 11 x0) (h1 : Sim.RowsIn w 11 x1) :
    Calls Try.prog 5 #[insV o0 x0, insV o1 x1] w fun e w' => e = .returned (.bool true) ∧ RowKit.Below w.heap.size w w' := by
  obtain ⟨⟨l0, t0, y0⟩, g0⟩ := tokX_of h0
  obtain ⟨⟨l1, t1, y1⟩, g1⟩ := tokX_of h1
  have long : ∀ (n0 n1 : Nat) (s0 s1 : Option Addr × Nat), x0 = .slice s0.1 n0 s0.2 → x1 = .slice s1.1 n1 s1.2 → (10 ≤ n0 ∨ (n0 ≤ 9 ∧ 10 ≤ n1)) → Calls Try.prog 5 #[insV o0 x0, insV o1 x1] w fun e w' => e = .returned (.bool true) ∧ RowKit.Below w.heap.size w w' := by
    intro n0 n1 s0 s1 e0 e1 hn
    have hL : LongQ (fun k => if k = 2 then s0 else s1) (fun k => [o0, o1, (n0 : Int), (n1 : Int)].getD k 0) := by
      rcases hn with hn | ⟨hn, hm⟩
      · exact longA (holds_cons (show (10 : Int) ≤ (n0 : Int) by omega) (holds_cons (show (0 : Int) ≤ (n1 : Int) by omega) holds_nil))
      · exact longB (holds_cons (show (0 : Int) ≤ (n0 : Int) by omega) (holds_cons (show (n0 : Int) ≤ 9 by omega) (holds_cons (show (10 : Int) ≤ (n1 : Int) by omega) holds_nil)))
    have := hL E0 w (out0 _ _ _)
    have e : (@concs (nameS (fun k => [o0, o1, (n0 : Int), (n1 : Int)].getD k 0) fun k => if k = 2 then s0 else s1) E0 [.agg [a 0, .osl 2], .agg [a 1, .osl 3]]).toArray = #[insV o0 x0, insV o1 x1] := by
      rw [e0, e1]
      simp only [conc, concs]
      rfl
    rw [e] at this
    exact this
  rcases g0 with ⟨n0, s0, hn, e0⟩ | ⟨L, z0, b0, f0, c0, a0, d0⟩
  · exact long n0 l1 s0 t1 e0 y1 (.inl hn)
  obtain ⟨q1, q2, q3, q4⟩ := tokX_nums d0
  rcases g1 with ⟨n1, s1, hn, e1⟩ | ⟨M, z1, b1, f1, c1, a1, d1⟩
  · rcases d0 with ⟨rfl, _, e0⟩ | ⟨rfl, _, e0⟩ | ⟨hL, _, e0, _⟩
    · exact long 0 n1 (none, 0) s1 e0 e1 (.inr ⟨by omega, hn⟩)
    · exact long 0 n1 (some a0, c0) s1 e0 e1 (.inr ⟨by omega, hn⟩)
    · exact long L n1 (some ⟨b0, f0, none⟩, c0) s1 e0 e1 (.inr ⟨hL.2, hn⟩)
  obtain ⟨r1, r2, r3, r4⟩ := tokX_nums d1
  obtain ⟨b, s, e, R0, hB, hC, heq, hEr, can0⟩ := canD_of (conAll o0 z0 (numT L) q2 q3 q4)
  obtain ⟨_, _, _, R1, _, _, _, _, can1⟩ := canD_of (conAll o1 z1 (numT M) r2 r3 r4)
  have hS := same_of q3 r3 q2 can0 can1
  generalize decide (R0.isSome = true ∧ o0 = o1 ∧ R0 = R1) = p at hS
  have hK : ∃ fm cells, CanT o0 z0 L fm e cells ∧ cells.length ≤ 100 ∧ ∀ val, (val 7 = e → lenP 2 L val → lenP 3 M val → TelQ L fm M val) := by
    rcases can0 with ⟨hR, e', he', k1, k2⟩ | ⟨hR, hn, hz⟩ | ⟨fm, cells, hR, hn1, hn4, hf, hc⟩
    · have hne : e ≠ 0 := fun h => by rw [hR] at heq; exact absurd (heq.1 h) (by simp)
      exact ⟨0, [], .inl ⟨rfl, hne, (hEr hne).1, (hEr hne).2⟩, by simp, fun val h7 h2 h3 => telErr L M q1 r1 val h2 h3 (by rw [h7]; exact hne)⟩
    · have he : e = 0 := heq.2 (by rw [hR]; rfl)
      have hL : L = 0 ∨ L = 10 := by
        rcases d0 with ⟨h, _⟩ | ⟨h, _⟩ | ⟨h, _⟩
        · exact .inl h
        · exact .inr h
        · have h' := nine (by omega : 1 ≤ L ∧ L ≤ 9)
          rcases h' with rfl | rfl | rfl | rfl | rfl | rfl | rfl | rfl | rfl <;> simp [numT] at hn
      exact ⟨7, [], .inr (.inl ⟨rfl, he, hL, hz⟩), by simp, fun val _ h2 h3 => telZ L M hL r1 val h2 h3⟩
    · have he : e = 0 := heq.2 (by rw [hR]; rfl)
      have eL : numT L = L := by
        have h' : L = 0 ∨ L = 1 ∨ L = 2 ∨ L = 3 ∨ L = 4 ∨ L = 5 ∨ L = 6 ∨ L = 7 ∨ L = 8 ∨ L = 9 ∨ L = 10 := by omega
        rcases h' with rfl | rfl | rfl | rfl | rfl | rfl | rfl | rfl | rfl | rfl | rfl <;> first | rfl | (simp [numT] at hn1)
      rw [eL] at hn1 hn4 hf
      have hb := fmB_bounds hn1 hn4 hf
      refine ⟨fm, cells, .inr (.inr ⟨hb, he, hc⟩), ?_, fun val _ h2 h3 => telF L fm M ⟨hn1, hn4⟩ hf r1 val h2 h3⟩
      rw [hc.1]
      have h' : fm = 1 ∨ fm = 2 ∨ fm = 3 ∨ fm = 4 ∨ fm = 5 ∨ fm = 6 := by omega
      rcases h' with rfl | rfl | rfl | rfl | rfl | rfl <;> simp [fmLen]
  obtain ⟨fm, cells, hK, hlen, hT⟩ := hK
  obtain ⟨E, hE⟩ : ∃ E : Env, E = ⟨fun i => if (1 ≤ L ∧ L ≤ 9) ∧ i = 0 then b0 else b1, fun i => if (1 ≤ L ∧ L ≤ 9) ∧ i = 0 then f0 else f1⟩ := ⟨_, rfl⟩
  obtain ⟨val, hval⟩ : ∃ val, val = valU o0 o1 (capT L c0) (capT M c1) b s e (cond p 1 0) cells z0 z1 := ⟨_, rfl⟩
  have v0 : val 0 = o0 := by rw [hval]; rfl
  have v1 : val 1 = o1 := by rw [hval]; rfl
  have v2 : val 2 = capT L c0 := by rw [hval]; rfl
  have v3 : val 3 = capT M c1 := by rw [hval]; rfl
  have v5 : val 5 = b := by rw [hval]; rfl
  have v6 : val 6 = s := by rw [hval]; rfl
  have v7 : val 7 = e := by rw [hval]; rfl
  have v8 : (val 8 == 1) = p := by rw [hval]; cases p <;> rfl
  have w1 : ∀ i, i < cells.length → val (100 + i) = cells.getD i 0 := by
    intro i hi
    rw [hval]
    show (if 100 + i < 100 then _ else if 100 + i < 200 then cells.getD (100 + i - 100) 0 else _) = _
    rw [if_neg (by omega), if_pos (by omega), show 100 + i - 100 = i by omega]
  have w2 : ∀ i, i < 11 * L → L ≤ 9 → val (200 + i) = z0.getD i 0 := by
    intro i hi h9
    rw [hval]
    show (if 200 + i < 100 then _ else if 200 + i < 200 then _ else if 200 + i < 400 then z0.getD (200 + i - 200) 0 else _) = _
    rw [if_neg (by omega), if_neg (by omega), if_pos (by omega), show 200 + i - 200 = i by omega]
  have w3 : ∀ i, i < 11 * M → M ≤ 9 → val (400 + i) = z1.getD i 0 := by
    intro i hi h9
    rw [hval]
    show (if 400 + i < 100 then _ else if 400 + i < 200 then _ else if 400 + i < 400 then _ else z1.getD (400 + i - 400) 0) = _
    rw [if_neg (by omega), if_neg (by omega), if_neg (by omega), show 400 + i - 400 = i by omega]
  have hM := meT_ok (sla := slE a0 c0 a1 c1) (M := M) v0 v1 (tokT_of d0 w2) (tokT_of d1 w3) v7 v8 (by rw [v5, v6]; exact hB) hC hK w1 hS
  have hLaw := hT val v7 (lenP_of d0 v2) (lenP_of d1 v3) a0 c0 a1 c1 hM
  have hEA : 1 ≤ L ∧ L ≤ 9 → E.ρ 0 = b0 ∧ E.κ 0 = f0 := fun h => by rw [hE]; exact ⟨if_pos ⟨h, rfl⟩, if_pos ⟨h, rfl⟩⟩
  have hEB : 1 ≤ M ∧ M ≤ 9 → E.ρ (bOf' L) = b1 ∧ E.κ (bOf' L) = f1 := by
    intro _
    rw [hE]
    by_cases hL : 1 ≤ L ∧ L ≤ 9
    · rw [bOf_n hL]
      exact ⟨if_neg (fun h => by have := h.2; omega), if_neg (fun h => by have := h.2; omega)⟩
    · exact ⟨if_neg (fun h => hL h.1), if_neg (fun h => hL h.1)⟩
  have hz : ∀ {c K : Nat}, ¬ (1 ≤ K ∧ K ≤ 9) → K ≤ 10 → outT c K = [] ∧ bOf' K = 0 := by
    intro c K h h10
    have : K = 0 ∨ K = 10 := by omega
    rcases this with rfl | rfl <;> exact ⟨rfl, rfl⟩
  have hO : @OutOK (nameS val (slE a0 c0 a1 c1)) E w (outsT L M) := by
    intro k o hk
    by_cases hL : 1 ≤ L ∧ L ≤ 9
    · rw [outsT, outT_n hL] at hk
      cases k with
      | zero =>
        simp only [List.cons_append, List.nil_append, List.getElem?_cons_zero, Option.some.injEq] at hk
        exact outT_ok d0 w2 hEA hL hk.symm
      | succ k =>
        simp only [List.cons_append, List.nil_append, List.getElem?_cons_succ] at hk
        by_cases hM' : 1 ≤ M ∧ M ≤ 9
        · rw [outT_n hM'] at hk
          cases k with
          | zero =>
            simp only [List.getElem?_cons_zero, Option.some.injEq] at hk
            have := hEB
            rw [bOf_n hL] at this
            exact outT_ok d1 w3 this hM' hk.symm
          | succ k => simp at hk
        · rw [(hz hM' r1).1] at hk; simp at hk
    · rw [outsT, (hz hL q1).1, List.nil_append] at hk
      by_cases hM' : 1 ≤ M ∧ M ≤ 9
      · rw [outT_n hM'] at hk
        cases k with
        | zero =>
          simp only [List.getElem?_cons_zero, Option.some.injEq] at hk
          have := hEB
          rw [(hz (c := 0) hL q1).2] at this
          exact outT_ok d1 w3 this hM' hk.symm
        | succ k => simp at hk
      · rw [(hz hM' r1).1] at hk; simp at hk
  have := hLaw E w hO
  have aA : @conc (nameS val (slE a0 c0 a1 c1)) E (argT 0 0 2 L) = insV o0 x0 := argT_conc d0 v0 v2 rfl hEA
  have aB : @conc (nameS val (slE a0 c0 a1 c1)) E (argT (bOf' L) 1 3 M) = insV o1 x1 := argT_conc d1 v1 v3 rfl hEB
  simp only [argsT, concs, aA, aB] at this
  exact this

end Go.Proofs.Ytndiilfjeconbaa.instTells
