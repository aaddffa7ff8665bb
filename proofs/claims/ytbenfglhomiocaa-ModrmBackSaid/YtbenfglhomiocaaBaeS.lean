/-
  The law 'ModrmBack': the kind of operand, out of numbers.
-/
import Derived.Test.YtbenfglhomiocaaBakS
import Derived.Test.YtbenfglhomiocaaBaeD0
import Derived.Test.YtbenfglhomiocaaBaeD1
import Derived.Test.YtbenfglhomiocaaBaeD2
import Derived.Test.YtbenfglhomiocaaBaeD3
namespace Go.Proofs.Ytbenfglhomiocaa.Bak
open Go.Sim Go.Proofs.Ytbenfglhomiocaa.Tab
set_option maxRecDepth 100000
set_option linter.unusedVariables false

def AllL (z : Bool) : List Cfg → Prop
  | [] => True
  | c :: l => LA c z ∧ AllL z l

theorem memC_allL {c : Cfg} {z : Bool} : ∀ {l : List Cfg}, memC c l = true → AllL z l → LA c z
  | [], h, _ => by cases h
  | d :: l, h, ha => by
    unfold memC at h
    cases e : beqC c d
    · rw [e] at h; exact memC_allL h ha.2
    · rw [beqC_eq e]; exact ha.1

theorem la_0_0_0_1 : AllL true g_0_0_0 := ⟨x_0_0_8_0_0_0_2_1, x_0_1_8_0_0_0_2_1, trivial⟩

theorem la_0_0_0_0 : AllL false g_0_0_0 := ⟨x_0_0_8_0_0_0_2_0, x_0_1_8_0_0_0_2_0, trivial⟩

theorem la_1_0_0_1 : AllL true g_1_0_0 := ⟨x_1_0_0_0_0_0_0_1, x_1_0_0_0_0_0_2_1, trivial⟩

theorem la_1_0_0_0 : AllL false g_1_0_0 := ⟨x_1_0_0_0_0_0_0_0, x_1_0_0_0_0_0_2_0, trivial⟩

theorem la_2_0_0_1 : AllL true g_2_0_0 := ⟨x_2_0_0_0_0_0_0_1, x_2_0_0_0_0_0_2_1, trivial⟩

theorem la_2_0_0_0 : AllL false g_2_0_0 := ⟨x_2_0_0_0_0_0_0_0, x_2_0_0_0_0_0_2_0, trivial⟩

theorem la_3_0_0_1 : AllL true g_3_0_0 := ⟨x_3_0_8_0_0_0_0_1, x_3_0_8_0_0_0_1_1, x_3_0_8_0_0_0_2_1, x_3_0_4_0_0_0_0_1, x_3_0_4_0_0_0_1_1, x_3_0_4_0_0_0_2_1, x_3_0_5_0_0_0_0_1, x_3_0_5_0_0_0_1_1, x_3_0_5_0_0_0_2_1, x_3_1_8_0_0_0_0_1, x_3_1_8_0_0_0_1_1, x_3_1_8_0_0_0_2_1, x_3_1_4_0_0_0_0_1, x_3_1_4_0_0_0_1_1, x_3_1_4_0_0_0_2_1, x_3_1_5_0_0_0_0_1, x_3_1_5_0_0_0_1_1, x_3_1_5_0_0_0_2_1, trivial⟩

theorem la_3_0_0_0 : AllL false g_3_0_0 := ⟨x_3_0_8_0_0_0_0_0, x_3_0_8_0_0_0_1_0, x_3_0_8_0_0_0_2_0, x_3_0_4_0_0_0_0_0, x_3_0_4_0_0_0_1_0, x_3_0_4_0_0_0_2_0, x_3_0_5_0_0_0_0_0, x_3_0_5_0_0_0_1_0, x_3_0_5_0_0_0_2_0, x_3_1_8_0_0_0_0_0, x_3_1_8_0_0_0_1_0, x_3_1_8_0_0_0_2_0, x_3_1_4_0_0_0_0_0, x_3_1_4_0_0_0_1_0, x_3_1_4_0_0_0_2_0, x_3_1_5_0_0_0_0_0, x_3_1_5_0_0_0_1_0, x_3_1_5_0_0_0_2_0, trivial⟩

theorem la_4_0_0_1 : AllL true g_4_0_0 := ⟨x_4_0_0_0_8_1_0_1, x_4_0_0_0_8_1_2_1, x_4_0_0_0_8_2_0_1, x_4_0_0_0_8_2_2_1, x_4_0_0_0_8_3_0_1, x_4_0_0_0_8_3_2_1, x_4_0_0_1_8_1_0_1, x_4_0_0_1_8_1_2_1, x_4_0_0_1_8_2_0_1, x_4_0_0_1_8_2_2_1, x_4_0_0_1_8_3_0_1, x_4_0_0_1_8_3_2_1, x_4_0_0_1_4_1_0_1, x_4_0_0_1_4_1_2_1, x_4_0_0_1_4_2_0_1, x_4_0_0_1_4_2_2_1, x_4_0_0_1_4_3_0_1, x_4_0_0_1_4_3_2_1, trivial⟩

theorem la_4_0_0_0 : AllL false g_4_0_0 := ⟨x_4_0_0_0_8_1_0_0, x_4_0_0_0_8_1_2_0, x_4_0_0_0_8_2_0_0, x_4_0_0_0_8_2_2_0, x_4_0_0_0_8_3_0_0, x_4_0_0_0_8_3_2_0, x_4_0_0_1_8_1_0_0, x_4_0_0_1_8_1_2_0, x_4_0_0_1_8_2_0_0, x_4_0_0_1_8_2_2_0, x_4_0_0_1_8_3_0_0, x_4_0_0_1_8_3_2_0, x_4_0_0_1_4_1_0_0, x_4_0_0_1_4_1_2_0, x_4_0_0_1_4_2_0_0, x_4_0_0_1_4_2_2_0, x_4_0_0_1_4_3_0_0, x_4_0_0_1_4_3_2_0, trivial⟩

theorem la_5_0_0_0_0_1 : AllL true g_5_0_0_0_0 := ⟨x_5_0_8_0_8_0_0_1, x_5_0_8_0_8_0_1_1, x_5_0_8_0_8_0_2_1, x_5_0_8_0_8_1_0_1, x_5_0_8_0_8_1_1_1, x_5_0_8_0_8_1_2_1, x_5_0_8_0_8_2_0_1, x_5_0_8_0_8_2_1_1, x_5_0_8_0_8_2_2_1, x_5_0_8_0_8_3_0_1, x_5_0_8_0_8_3_1_1, x_5_0_8_0_8_3_2_1, x_5_0_5_0_8_0_0_1, x_5_0_5_0_8_0_1_1, x_5_0_5_0_8_0_2_1, x_5_0_5_0_8_1_0_1, x_5_0_5_0_8_1_1_1, x_5_0_5_0_8_1_2_1, x_5_0_5_0_8_2_0_1, x_5_0_5_0_8_2_1_1, x_5_0_5_0_8_2_2_1, x_5_0_5_0_8_3_0_1, x_5_0_5_0_8_3_1_1, x_5_0_5_0_8_3_2_1, trivial⟩

theorem la_5_0_0_0_0_0 : AllL false g_5_0_0_0_0 := ⟨x_5_0_8_0_8_0_0_0, x_5_0_8_0_8_0_1_0, x_5_0_8_0_8_0_2_0, x_5_0_8_0_8_1_0_0, x_5_0_8_0_8_1_1_0, x_5_0_8_0_8_1_2_0, x_5_0_8_0_8_2_0_0, x_5_0_8_0_8_2_1_0, x_5_0_8_0_8_2_2_0, x_5_0_8_0_8_3_0_0, x_5_0_8_0_8_3_1_0, x_5_0_8_0_8_3_2_0, x_5_0_5_0_8_0_0_0, x_5_0_5_0_8_0_1_0, x_5_0_5_0_8_0_2_0, x_5_0_5_0_8_1_0_0, x_5_0_5_0_8_1_1_0, x_5_0_5_0_8_1_2_0, x_5_0_5_0_8_2_0_0, x_5_0_5_0_8_2_1_0, x_5_0_5_0_8_2_2_0, x_5_0_5_0_8_3_0_0, x_5_0_5_0_8_3_1_0, x_5_0_5_0_8_3_2_0, trivial⟩

theorem la_5_0_0_0_1_1 : AllL true g_5_0_0_0_1 := ⟨x_5_0_8_1_8_0_0_1, x_5_0_8_1_8_0_1_1, x_5_0_8_1_8_0_2_1, x_5_0_8_1_8_1_0_1, x_5_0_8_1_8_1_1_1, x_5_0_8_1_8_1_2_1, x_5_0_8_1_8_2_0_1, x_5_0_8_1_8_2_1_1, x_5_0_8_1_8_2_2_1, x_5_0_8_1_8_3_0_1, x_5_0_8_1_8_3_1_1, x_5_0_8_1_8_3_2_1, x_5_0_5_1_8_0_0_1, x_5_0_5_1_8_0_1_1, x_5_0_5_1_8_0_2_1, x_5_0_5_1_8_1_0_1, x_5_0_5_1_8_1_1_1, x_5_0_5_1_8_1_2_1, x_5_0_5_1_8_2_0_1, x_5_0_5_1_8_2_1_1, x_5_0_5_1_8_2_2_1, x_5_0_5_1_8_3_0_1, x_5_0_5_1_8_3_1_1, x_5_0_5_1_8_3_2_1, x_5_0_8_1_4_0_0_1, x_5_0_8_1_4_0_1_1, x_5_0_8_1_4_0_2_1, x_5_0_8_1_4_1_0_1, x_5_0_8_1_4_1_1_1, x_5_0_8_1_4_1_2_1, x_5_0_8_1_4_2_0_1, x_5_0_8_1_4_2_1_1, x_5_0_8_1_4_2_2_1, x_5_0_8_1_4_3_0_1, x_5_0_8_1_4_3_1_1, x_5_0_8_1_4_3_2_1, x_5_0_5_1_4_0_0_1, x_5_0_5_1_4_0_1_1, x_5_0_5_1_4_0_2_1, x_5_0_5_1_4_1_0_1, x_5_0_5_1_4_1_1_1, x_5_0_5_1_4_1_2_1, x_5_0_5_1_4_2_0_1, x_5_0_5_1_4_2_1_1, x_5_0_5_1_4_2_2_1, x_5_0_5_1_4_3_0_1, x_5_0_5_1_4_3_1_1, x_5_0_5_1_4_3_2_1, trivial⟩

theorem la_5_0_0_0_1_0 : AllL false g_5_0_0_0_1 := ⟨x_5_0_8_1_8_0_0_0, x_5_0_8_1_8_0_1_0, x_5_0_8_1_8_0_2_0, x_5_0_8_1_8_1_0_0, x_5_0_8_1_8_1_1_0, x_5_0_8_1_8_1_2_0, x_5_0_8_1_8_2_0_0, x_5_0_8_1_8_2_1_0, x_5_0_8_1_8_2_2_0, x_5_0_8_1_8_3_0_0, x_5_0_8_1_8_3_1_0, x_5_0_8_1_8_3_2_0, x_5_0_5_1_8_0_0_0, x_5_0_5_1_8_0_1_0, x_5_0_5_1_8_0_2_0, x_5_0_5_1_8_1_0_0, x_5_0_5_1_8_1_1_0, x_5_0_5_1_8_1_2_0, x_5_0_5_1_8_2_0_0, x_5_0_5_1_8_2_1_0, x_5_0_5_1_8_2_2_0, x_5_0_5_1_8_3_0_0, x_5_0_5_1_8_3_1_0, x_5_0_5_1_8_3_2_0, x_5_0_8_1_4_0_0_0, x_5_0_8_1_4_0_1_0, x_5_0_8_1_4_0_2_0, x_5_0_8_1_4_1_0_0, x_5_0_8_1_4_1_1_0, x_5_0_8_1_4_1_2_0, x_5_0_8_1_4_2_0_0, x_5_0_8_1_4_2_1_0, x_5_0_8_1_4_2_2_0, x_5_0_8_1_4_3_0_0, x_5_0_8_1_4_3_1_0, x_5_0_8_1_4_3_2_0, x_5_0_5_1_4_0_0_0, x_5_0_5_1_4_0_1_0, x_5_0_5_1_4_0_2_0, x_5_0_5_1_4_1_0_0, x_5_0_5_1_4_1_1_0, x_5_0_5_1_4_1_2_0, x_5_0_5_1_4_2_0_0, x_5_0_5_1_4_2_1_0, x_5_0_5_1_4_2_2_0, x_5_0_5_1_4_3_0_0, x_5_0_5_1_4_3_1_0, x_5_0_5_1_4_3_2_0, trivial⟩

theorem la_5_0_0_1_0_1 : AllL true g_5_0_0_1_0 := ⟨x_5_1_8_0_8_0_0_1, x_5_1_8_0_8_0_1_1, x_5_1_8_0_8_0_2_1, x_5_1_8_0_8_1_0_1, x_5_1_8_0_8_1_1_1, x_5_1_8_0_8_1_2_1, x_5_1_8_0_8_2_0_1, x_5_1_8_0_8_2_1_1, x_5_1_8_0_8_2_2_1, x_5_1_8_0_8_3_0_1, x_5_1_8_0_8_3_1_1, x_5_1_8_0_8_3_2_1, x_5_1_5_0_8_0_0_1, x_5_1_5_0_8_0_1_1, x_5_1_5_0_8_0_2_1, x_5_1_5_0_8_1_0_1, x_5_1_5_0_8_1_1_1, x_5_1_5_0_8_1_2_1, x_5_1_5_0_8_2_0_1, x_5_1_5_0_8_2_1_1, x_5_1_5_0_8_2_2_1, x_5_1_5_0_8_3_0_1, x_5_1_5_0_8_3_1_1, x_5_1_5_0_8_3_2_1, trivial⟩

theorem la_5_0_0_1_0_0 : AllL false g_5_0_0_1_0 := ⟨x_5_1_8_0_8_0_0_0, x_5_1_8_0_8_0_1_0, x_5_1_8_0_8_0_2_0, x_5_1_8_0_8_1_0_0, x_5_1_8_0_8_1_1_0, x_5_1_8_0_8_1_2_0, x_5_1_8_0_8_2_0_0, x_5_1_8_0_8_2_1_0, x_5_1_8_0_8_2_2_0, x_5_1_8_0_8_3_0_0, x_5_1_8_0_8_3_1_0, x_5_1_8_0_8_3_2_0, x_5_1_5_0_8_0_0_0, x_5_1_5_0_8_0_1_0, x_5_1_5_0_8_0_2_0, x_5_1_5_0_8_1_0_0, x_5_1_5_0_8_1_1_0, x_5_1_5_0_8_1_2_0, x_5_1_5_0_8_2_0_0, x_5_1_5_0_8_2_1_0, x_5_1_5_0_8_2_2_0, x_5_1_5_0_8_3_0_0, x_5_1_5_0_8_3_1_0, x_5_1_5_0_8_3_2_0, trivial⟩

theorem la_5_0_0_1_1_1 : AllL true g_5_0_0_1_1 := ⟨x_5_1_8_1_8_0_0_1, x_5_1_8_1_8_0_1_1, x_5_1_8_1_8_0_2_1, x_5_1_8_1_8_1_0_1, x_5_1_8_1_8_1_1_1, x_5_1_8_1_8_1_2_1, x_5_1_8_1_8_2_0_1, x_5_1_8_1_8_2_1_1, x_5_1_8_1_8_2_2_1, x_5_1_8_1_8_3_0_1, x_5_1_8_1_8_3_1_1, x_5_1_8_1_8_3_2_1, x_5_1_5_1_8_0_0_1, x_5_1_5_1_8_0_1_1, x_5_1_5_1_8_0_2_1, x_5_1_5_1_8_1_0_1, x_5_1_5_1_8_1_1_1, x_5_1_5_1_8_1_2_1, x_5_1_5_1_8_2_0_1, x_5_1_5_1_8_2_1_1, x_5_1_5_1_8_2_2_1, x_5_1_5_1_8_3_0_1, x_5_1_5_1_8_3_1_1, x_5_1_5_1_8_3_2_1, x_5_1_8_1_4_0_0_1, x_5_1_8_1_4_0_1_1, x_5_1_8_1_4_0_2_1, x_5_1_8_1_4_1_0_1, x_5_1_8_1_4_1_1_1, x_5_1_8_1_4_1_2_1, x_5_1_8_1_4_2_0_1, x_5_1_8_1_4_2_1_1, x_5_1_8_1_4_2_2_1, x_5_1_8_1_4_3_0_1, x_5_1_8_1_4_3_1_1, x_5_1_8_1_4_3_2_1, x_5_1_5_1_4_0_0_1, x_5_1_5_1_4_0_1_1, x_5_1_5_1_4_0_2_1, x_5_1_5_1_4_1_0_1, x_5_1_5_1_4_1_1_1, x_5_1_5_1_4_1_2_1, x_5_1_5_1_4_2_0_1, x_5_1_5_1_4_2_1_1, x_5_1_5_1_4_2_2_1, x_5_1_5_1_4_3_0_1, x_5_1_5_1_4_3_1_1, x_5_1_5_1_4_3_2_1, trivial⟩

theorem la_5_0_0_1_1_0 : AllL false g_5_0_0_1_1 := ⟨x_5_1_8_1_8_0_0_0, x_5_1_8_1_8_0_1_0, x_5_1_8_1_8_0_2_0, x_5_1_8_1_8_1_0_0, x_5_1_8_1_8_1_1_0, x_5_1_8_1_8_1_2_0, x_5_1_8_1_8_2_0_0, x_5_1_8_1_8_2_1_0, x_5_1_8_1_8_2_2_0, x_5_1_8_1_8_3_0_0, x_5_1_8_1_8_3_1_0, x_5_1_8_1_8_3_2_0, x_5_1_5_1_8_0_0_0, x_5_1_5_1_8_0_1_0, x_5_1_5_1_8_0_2_0, x_5_1_5_1_8_1_0_0, x_5_1_5_1_8_1_1_0, x_5_1_5_1_8_1_2_0, x_5_1_5_1_8_2_0_0, x_5_1_5_1_8_2_1_0, x_5_1_5_1_8_2_2_0, x_5_1_5_1_8_3_0_0, x_5_1_5_1_8_3_1_0, x_5_1_5_1_8_3_2_0, x_5_1_8_1_4_0_0_0, x_5_1_8_1_4_0_1_0, x_5_1_8_1_4_0_2_0, x_5_1_8_1_4_1_0_0, x_5_1_8_1_4_1_1_0, x_5_1_8_1_4_1_2_0, x_5_1_8_1_4_2_0_0, x_5_1_8_1_4_2_1_0, x_5_1_8_1_4_2_2_0, x_5_1_8_1_4_3_0_0, x_5_1_8_1_4_3_1_0, x_5_1_8_1_4_3_2_0, x_5_1_5_1_4_0_0_0, x_5_1_5_1_4_0_1_0, x_5_1_5_1_4_0_2_0, x_5_1_5_1_4_1_0_0, x_5_1_5_1_4_1_1_0, x_5_1_5_1_4_1_2_0, x_5_1_5_1_4_2_0_0, x_5_1_5_1_4_2_1_0, x_5_1_5_1_4_2_2_0, x_5_1_5_1_4_3_0_0, x_5_1_5_1_4_3_1_0, x_5_1_5_1_4_3_2_0, trivial⟩

def lbOf3 (lo : Int) : Nat := if lo = 4 then 4 else if lo = 5 then 5 else 8

def lbOf5 (lo : Int) : Nat := if lo = 5 then 5 else 8

def liOf (hi : Nat) (ix : Int) : Nat := if ix = 4 ∧ hi = 1 then 4 else 8

def dkB (d : Int) : Nat := if d = 0 then 0 else if -128 ≤ d ∧ d ≤ 127 then 1 else 2

def dkD (d : Int) : Nat := if d = 0 then 0 else 2

theorem lbOf3_is (lo : Int) : ∃ l : Fin 3, lbOf3 lo = lbN l.val := by
  unfold lbOf3
  split
  · exact ⟨1, rfl⟩
  · split
    · exact ⟨2, rfl⟩
    · exact ⟨0, rfl⟩

theorem lbOf5_is (lo : Int) : ∃ z : Bool, lbOf5 lo = lb5 z := by
  unfold lbOf5
  split
  · exact ⟨true, rfl⟩
  · exact ⟨false, rfl⟩

theorem dkB_is (d : Int) : ∃ k : Fin 3, dkB d = k.val := by
  unfold dkB
  split
  · exact ⟨0, rfl⟩
  · split
    · exact ⟨1, rfl⟩
    · exact ⟨2, rfl⟩

theorem dkD_is (d : Int) : ∃ z : Bool, dkD d = dkN z := by
  unfold dkD
  split
  · exact ⟨true, rfl⟩
  · exact ⟨false, rfl⟩

theorem hiLi_is {hi : Nat} (h : hi ≤ 1) (ix : Int) : ∃ i : Fin 3, hi = hiN i.val ∧ liOf hi ix = liN i.val := by
  unfold liOf
  split
  · rename_i e
    exact ⟨2, e.2, rfl⟩
  · rcases (show hi = 0 ∨ hi = 1 by omega) with rfl | rfl
    · exact ⟨0, rfl, rfl⟩
    · exact ⟨1, rfl, rfl⟩

theorem liOf0 (ix : Int) : liOf 0 ix = 8 := by
  unfold liOf
  rw [if_neg (fun h => absurd h.2 (by decide))]

theorem liOf1 (ix : Int) : ∃ b : Bool, liOf 1 ix = cond b 4 8 := by
  unfold liOf
  split
  · exact ⟨true, rfl⟩
  · exact ⟨false, rfl⟩

theorem selB0 {hb : Nat} (h1 : hb ≤ 1) (ah be : Bool) : BA ⟨0, hb, 8, 0, 0, 0, 2, ah, be⟩ := by
  cases ah
  · cases be
    · exact memC_all (gm_0_0_0 ⟨hb, by omega⟩) ga_0_0_0
    · exact memC_all (gm_0_0_1 ⟨hb, by omega⟩) ga_0_0_1
  · cases be
    · exact memC_all (gm_0_1_0 ⟨hb, by omega⟩) ga_0_1_0
    · exact memC_all (gm_0_1_1 ⟨hb, by omega⟩) ga_0_1_1

theorem selB1 (d : Int) (ah be : Bool) : BA ⟨1, 0, 0, 0, 0, 0, dkD d, ah, be⟩ := by
  obtain ⟨z, e⟩ := dkD_is d
  rw [e]
  cases ah
  · cases be
    · exact memC_all (gm_1_0_0 z) ga_1_0_0
    · exact memC_all (gm_1_0_1 z) ga_1_0_1
  · cases be
    · exact memC_all (gm_1_1_0 z) ga_1_1_0
    · exact memC_all (gm_1_1_1 z) ga_1_1_1

theorem selB2 (d : Int) (ah be : Bool) : BA ⟨2, 0, 0, 0, 0, 0, dkD d, ah, be⟩ := by
  obtain ⟨z, e⟩ := dkD_is d
  rw [e]
  cases ah
  · cases be
    · exact memC_all (gm_2_0_0 z) ga_2_0_0
    · exact memC_all (gm_2_0_1 z) ga_2_0_1
  · cases be
    · exact memC_all (gm_2_1_0 z) ga_2_1_0
    · exact memC_all (gm_2_1_1 z) ga_2_1_1

theorem selB3 {hb : Nat} (h1 : hb ≤ 1) (lo d : Int) (ah be : Bool) : BA ⟨3, hb, lbOf3 lo, 0, 0, 0, dkB d, ah, be⟩ := by
  obtain ⟨l, e⟩ := lbOf3_is lo
  obtain ⟨k, e'⟩ := dkB_is d
  rw [e, e']
  cases ah
  · cases be
    · exact memC_all (gm_3_0_0 ⟨hb, by omega⟩ l k) ga_3_0_0
    · exact memC_all (gm_3_0_1 ⟨hb, by omega⟩ l k) ga_3_0_1
  · cases be
    · exact memC_all (gm_3_1_0 ⟨hb, by omega⟩ l k) ga_3_1_0
    · exact memC_all (gm_3_1_1 ⟨hb, by omega⟩ l k) ga_3_1_1

theorem selB4 {hi : Nat} (h1 : hi ≤ 1) {ss : Nat} (h2 : ss ≤ 3) (h3 : ss ≠ 0) (ix d : Int) (ah be : Bool) : BA ⟨4, 0, 0, hi, liOf hi ix, ss, dkD d, ah, be⟩ := by
  obtain ⟨i, e1, e2⟩ := hiLi_is h1 ix
  obtain ⟨z, e⟩ := dkD_is d
  obtain ⟨t, rfl⟩ : ∃ t, ss = t + 1 := ⟨ss - 1, by omega⟩
  rw [e2, e]
  subst e1
  cases ah
  · cases be
    · exact memC_all (gm_4_0_0 i ⟨t, by omega⟩ z) ga_4_0_0
    · exact memC_all (gm_4_0_1 i ⟨t, by omega⟩ z) ga_4_0_1
  · cases be
    · exact memC_all (gm_4_1_0 i ⟨t, by omega⟩ z) ga_4_1_0
    · exact memC_all (gm_4_1_1 i ⟨t, by omega⟩ z) ga_4_1_1

theorem selB5 {hb hi ss : Nat} (h1 : hb ≤ 1) (h2 : hi ≤ 1) (h3 : ss ≤ 3) (lo ix d : Int) (ah be : Bool) : BA ⟨5, hb, lbOf5 lo, hi, liOf hi ix, ss, dkB d, ah, be⟩ := by
  obtain ⟨z, e⟩ := lbOf5_is lo
  obtain ⟨k, e'⟩ := dkB_is d
  rw [e, e']
  rcases (show hb = 0 ∨ hb = 1 by omega) with rfl | rfl <;> rcases (show hi = 0 ∨ hi = 1 by omega) with rfl | rfl
  · rw [liOf0]
    cases ah
    · cases be
      · exact memC_all (gm_5_0_0_0_0 false ⟨ss, by omega⟩ k z) ga_5_0_0_0_0
      · exact memC_all (gm_5_0_1_0_0 false ⟨ss, by omega⟩ k z) ga_5_0_1_0_0
    · cases be
      · exact memC_all (gm_5_1_0_0_0 false ⟨ss, by omega⟩ k z) ga_5_1_0_0_0
      · exact memC_all (gm_5_1_1_0_0 false ⟨ss, by omega⟩ k z) ga_5_1_1_0_0
  · obtain ⟨b, e2⟩ := liOf1 ix
    rw [e2]
    cases ah
    · cases be
      · exact memC_all (gm_5_0_0_0_1 b ⟨ss, by omega⟩ k z) ga_5_0_0_0_1
      · exact memC_all (gm_5_0_1_0_1 b ⟨ss, by omega⟩ k z) ga_5_0_1_0_1
    · cases be
      · exact memC_all (gm_5_1_0_0_1 b ⟨ss, by omega⟩ k z) ga_5_1_0_0_1
      · exact memC_all (gm_5_1_1_0_1 b ⟨ss, by omega⟩ k z) ga_5_1_1_0_1
  · rw [liOf0]
    cases ah
    · cases be
      · exact memC_all (gm_5_0_0_1_0 false ⟨ss, by omega⟩ k z) ga_5_0_0_1_0
      · exact memC_all (gm_5_0_1_1_0 false ⟨ss, by omega⟩ k z) ga_5_0_1_1_0
    · cases be
      · exact memC_all (gm_5_1_0_1_0 false ⟨ss, by omega⟩ k z) ga_5_1_0_1_0
      · exact memC_all (gm_5_1_1_1_0 false ⟨ss, by omega⟩ k z) ga_5_1_1_1_0
  · obtain ⟨b, e2⟩ := liOf1 ix
    rw [e2]
    cases ah
    · cases be
      · exact memC_all (gm_5_0_0_1_1 b ⟨ss, by omega⟩ k z) ga_5_0_0_1_1
      · exact memC_all (gm_5_0_1_1_1 b ⟨ss, by omega⟩ k z) ga_5_0_1_1_1
    · cases be
      · exact memC_all (gm_5_1_0_1_1 b ⟨ss, by omega⟩ k z) ga_5_1_0_1_1
      · exact memC_all (gm_5_1_1_1_1 b ⟨ss, by omega⟩ k z) ga_5_1_1_1_1

theorem selL0 {hb : Nat} (h1 : hb ≤ 1) (z' : Bool) : LA ⟨0, hb, 8, 0, 0, 0, 2, false, false⟩ z' := by
  cases z'
  · exact memC_allL (gm_0_0_0 ⟨hb, by omega⟩) la_0_0_0_0
  · exact memC_allL (gm_0_0_0 ⟨hb, by omega⟩) la_0_0_0_1

theorem selL1 (d : Int) (z' : Bool) : LA ⟨1, 0, 0, 0, 0, 0, dkD d, false, false⟩ z' := by
  obtain ⟨z, e⟩ := dkD_is d
  rw [e]
  cases z'
  · exact memC_allL (gm_1_0_0 z) la_1_0_0_0
  · exact memC_allL (gm_1_0_0 z) la_1_0_0_1

theorem selL2 (d : Int) (z' : Bool) : LA ⟨2, 0, 0, 0, 0, 0, dkD d, false, false⟩ z' := by
  obtain ⟨z, e⟩ := dkD_is d
  rw [e]
  cases z'
  · exact memC_allL (gm_2_0_0 z) la_2_0_0_0
  · exact memC_allL (gm_2_0_0 z) la_2_0_0_1

theorem selL3 {hb : Nat} (h1 : hb ≤ 1) (lo d : Int) (z' : Bool) : LA ⟨3, hb, lbOf3 lo, 0, 0, 0, dkB d, false, false⟩ z' := by
  obtain ⟨l, e⟩ := lbOf3_is lo
  obtain ⟨k, e'⟩ := dkB_is d
  rw [e, e']
  cases z'
  · exact memC_allL (gm_3_0_0 ⟨hb, by omega⟩ l k) la_3_0_0_0
  · exact memC_allL (gm_3_0_0 ⟨hb, by omega⟩ l k) la_3_0_0_1

theorem selL4 {hi : Nat} (h1 : hi ≤ 1) {ss : Nat} (h2 : ss ≤ 3) (h3 : ss ≠ 0) (ix d : Int) (z' : Bool) : LA ⟨4, 0, 0, hi, liOf hi ix, ss, dkD d, false, false⟩ z' := by
  obtain ⟨i, e1, e2⟩ := hiLi_is h1 ix
  obtain ⟨z, e⟩ := dkD_is d
  obtain ⟨t, rfl⟩ : ∃ t, ss = t + 1 := ⟨ss - 1, by omega⟩
  rw [e2, e]
  subst e1
  cases z'
  · exact memC_allL (gm_4_0_0 i ⟨t, by omega⟩ z) la_4_0_0_0
  · exact memC_allL (gm_4_0_0 i ⟨t, by omega⟩ z) la_4_0_0_1

theorem selL5 {hb hi ss : Nat} (h1 : hb ≤ 1) (h2 : hi ≤ 1) (h3 : ss ≤ 3) (lo ix d : Int) (z' : Bool) : LA ⟨5, hb, lbOf5 lo, hi, liOf hi ix, ss, dkB d, false, false⟩ z' := by
  obtain ⟨z, e⟩ := lbOf5_is lo
  obtain ⟨k, e'⟩ := dkB_is d
  rw [e, e']
  rcases (show hb = 0 ∨ hb = 1 by omega) with rfl | rfl <;> rcases (show hi = 0 ∨ hi = 1 by omega) with rfl | rfl
  · rw [liOf0]
    cases z'
    · exact memC_allL (gm_5_0_0_0_0 false ⟨ss, by omega⟩ k z) la_5_0_0_0_0_0
    · exact memC_allL (gm_5_0_0_0_0 false ⟨ss, by omega⟩ k z) la_5_0_0_0_0_1
  · obtain ⟨b, e2⟩ := liOf1 ix
    rw [e2]
    cases z'
    · exact memC_allL (gm_5_0_0_0_1 b ⟨ss, by omega⟩ k z) la_5_0_0_0_1_0
    · exact memC_allL (gm_5_0_0_0_1 b ⟨ss, by omega⟩ k z) la_5_0_0_0_1_1
  · rw [liOf0]
    cases z'
    · exact memC_allL (gm_5_0_0_1_0 false ⟨ss, by omega⟩ k z) la_5_0_0_1_0_0
    · exact memC_allL (gm_5_0_0_1_0 false ⟨ss, by omega⟩ k z) la_5_0_0_1_0_1
  · obtain ⟨b, e2⟩ := liOf1 ix
    rw [e2]
    cases z'
    · exact memC_allL (gm_5_0_0_1_1 b ⟨ss, by omega⟩ k z) la_5_0_0_1_1_0
    · exact memC_allL (gm_5_0_0_1_1 b ⟨ss, by omega⟩ k z) la_5_0_0_1_1_1

end Go.Proofs.Ytbenfglhomiocaa.Bak
