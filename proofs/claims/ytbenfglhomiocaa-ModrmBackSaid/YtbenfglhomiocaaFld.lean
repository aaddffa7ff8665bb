/-
  What field.Sign, Low, Fits and Wide do, of any number and any width.
-/
import Derived.Test.YtbenfglhomiocaaFldC1
import Derived.Test.YtbenfglhomiocaaFldC2
import Derived.Test.YtbenfglhomiocaaFldC3
import Derived.Test.YtbenfglhomiocaaFldC4
import Derived.Test.YtbenfglhomiocaaFldP
namespace Go.Proofs.Ytbenfglhomiocaa.Fld
open Go.Sim
set_option maxRecDepth 100000

theorem signAll (n : Int) (hn : In n) (b : Nat) (h1 : 1 ≤ b) (h2 : b ≤ 64) : Ret Try.prog 37 [.int .i64 n, .int .i64 b] (.int .i64 (sgnF n b)) := by
  have h : b = 1 ∨ b = 2 ∨ b = 3 ∨ b = 4 ∨ b = 5 ∨ b = 6 ∨ b = 7 ∨ b = 8 ∨ b = 9 ∨ b = 10 ∨ b = 11 ∨ b = 12 ∨ b = 13 ∨ b = 14 ∨ b = 15 ∨ b = 16 ∨ b = 17 ∨ b = 18 ∨ b = 19 ∨ b = 20 ∨ b = 21 ∨ b = 22 ∨ b = 23 ∨ b = 24 ∨ b = 25 ∨ b = 26 ∨ b = 27 ∨ b = 28 ∨ b = 29 ∨ b = 30 ∨ b = 31 ∨ b = 32 ∨ b = 33 ∨ b = 34 ∨ b = 35 ∨ b = 36 ∨ b = 37 ∨ b = 38 ∨ b = 39 ∨ b = 40 ∨ b = 41 ∨ b = 42 ∨ b = 43 ∨ b = 44 ∨ b = 45 ∨ b = 46 ∨ b = 47 ∨ b = 48 ∨ b = 49 ∨ b = 50 ∨ b = 51 ∨ b = 52 ∨ b = 53 ∨ b = 54 ∨ b = 55 ∨ b = 56 ∨ b = 57 ∨ b = 58 ∨ b = 59 ∨ b = 60 ∨ b = 61 ∨ b = 62 ∨ b = 63 ∨ b = 64 := by omega
  rcases h with rfl | rfl | rfl | rfl | rfl | rfl | rfl | rfl | rfl | rfl | rfl | rfl | rfl | rfl | rfl | rfl | rfl | rfl | rfl | rfl | rfl | rfl | rfl | rfl | rfl | rfl | rfl | rfl | rfl | rfl | rfl | rfl | rfl | rfl | rfl | rfl | rfl | rfl | rfl | rfl | rfl | rfl | rfl | rfl | rfl | rfl | rfl | rfl | rfl | rfl | rfl | rfl | rfl | rfl | rfl | rfl | rfl | rfl | rfl | rfl | rfl | rfl | rfl | rfl
  · exact sign1 n hn
  · exact sign2 n hn
  · exact sign3 n hn
  · exact sign4 n hn
  · exact sign5 n hn
  · exact sign6 n hn
  · exact sign7 n hn
  · exact sign8 n hn
  · exact sign9 n hn
  · exact sign10 n hn
  · exact sign11 n hn
  · exact sign12 n hn
  · exact sign13 n hn
  · exact sign14 n hn
  · exact sign15 n hn
  · exact sign16 n hn
  · exact sign17 n hn
  · exact sign18 n hn
  · exact sign19 n hn
  · exact sign20 n hn
  · exact sign21 n hn
  · exact sign22 n hn
  · exact sign23 n hn
  · exact sign24 n hn
  · exact sign25 n hn
  · exact sign26 n hn
  · exact sign27 n hn
  · exact sign28 n hn
  · exact sign29 n hn
  · exact sign30 n hn
  · exact sign31 n hn
  · exact sign32 n hn
  · exact sign33 n hn
  · exact sign34 n hn
  · exact sign35 n hn
  · exact sign36 n hn
  · exact sign37 n hn
  · exact sign38 n hn
  · exact sign39 n hn
  · exact sign40 n hn
  · exact sign41 n hn
  · exact sign42 n hn
  · exact sign43 n hn
  · exact sign44 n hn
  · exact sign45 n hn
  · exact sign46 n hn
  · exact sign47 n hn
  · exact sign48 n hn
  · exact sign49 n hn
  · exact sign50 n hn
  · exact sign51 n hn
  · exact sign52 n hn
  · exact sign53 n hn
  · exact sign54 n hn
  · exact sign55 n hn
  · exact sign56 n hn
  · exact sign57 n hn
  · exact sign58 n hn
  · exact sign59 n hn
  · exact sign60 n hn
  · exact sign61 n hn
  · exact sign62 n hn
  · exact sign63 n hn
  · exact sign64 n hn

theorem lowAll (n : Int) (hn : In n) (b : Nat) (h1 : 1 ≤ b) (h2 : b ≤ 64) : Ret Try.prog 69 [.int .i64 n, .int .i64 b] (.int .i64 (lowF n b)) := by
  have h : b = 1 ∨ b = 2 ∨ b = 3 ∨ b = 4 ∨ b = 5 ∨ b = 6 ∨ b = 7 ∨ b = 8 ∨ b = 9 ∨ b = 10 ∨ b = 11 ∨ b = 12 ∨ b = 13 ∨ b = 14 ∨ b = 15 ∨ b = 16 ∨ b = 17 ∨ b = 18 ∨ b = 19 ∨ b = 20 ∨ b = 21 ∨ b = 22 ∨ b = 23 ∨ b = 24 ∨ b = 25 ∨ b = 26 ∨ b = 27 ∨ b = 28 ∨ b = 29 ∨ b = 30 ∨ b = 31 ∨ b = 32 ∨ b = 33 ∨ b = 34 ∨ b = 35 ∨ b = 36 ∨ b = 37 ∨ b = 38 ∨ b = 39 ∨ b = 40 ∨ b = 41 ∨ b = 42 ∨ b = 43 ∨ b = 44 ∨ b = 45 ∨ b = 46 ∨ b = 47 ∨ b = 48 ∨ b = 49 ∨ b = 50 ∨ b = 51 ∨ b = 52 ∨ b = 53 ∨ b = 54 ∨ b = 55 ∨ b = 56 ∨ b = 57 ∨ b = 58 ∨ b = 59 ∨ b = 60 ∨ b = 61 ∨ b = 62 ∨ b = 63 ∨ b = 64 := by omega
  rcases h with rfl | rfl | rfl | rfl | rfl | rfl | rfl | rfl | rfl | rfl | rfl | rfl | rfl | rfl | rfl | rfl | rfl | rfl | rfl | rfl | rfl | rfl | rfl | rfl | rfl | rfl | rfl | rfl | rfl | rfl | rfl | rfl | rfl | rfl | rfl | rfl | rfl | rfl | rfl | rfl | rfl | rfl | rfl | rfl | rfl | rfl | rfl | rfl | rfl | rfl | rfl | rfl | rfl | rfl | rfl | rfl | rfl | rfl | rfl | rfl | rfl | rfl | rfl | rfl
  · exact low1 n hn
  · exact low2 n hn
  · exact low3 n hn
  · exact low4 n hn
  · exact low5 n hn
  · exact low6 n hn
  · exact low7 n hn
  · exact low8 n hn
  · exact low9 n hn
  · exact low10 n hn
  · exact low11 n hn
  · exact low12 n hn
  · exact low13 n hn
  · exact low14 n hn
  · exact low15 n hn
  · exact low16 n hn
  · exact low17 n hn
  · exact low18 n hn
  · exact low19 n hn
  · exact low20 n hn
  · exact low21 n hn
  · exact low22 n hn
  · exact low23 n hn
  · exact low24 n hn
  · exact low25 n hn
  · exact low26 n hn
  · exact low27 n hn
  · exact low28 n hn
  · exact low29 n hn
  · exact low30 n hn
  · exact low31 n hn
  · exact low32 n hn
  · exact low33 n hn
  · exact low34 n hn
  · exact low35 n hn
  · exact low36 n hn
  · exact low37 n hn
  · exact low38 n hn
  · exact low39 n hn
  · exact low40 n hn
  · exact low41 n hn
  · exact low42 n hn
  · exact low43 n hn
  · exact low44 n hn
  · exact low45 n hn
  · exact low46 n hn
  · exact low47 n hn
  · exact low48 n hn
  · exact low49 n hn
  · exact low50 n hn
  · exact low51 n hn
  · exact low52 n hn
  · exact low53 n hn
  · exact low54 n hn
  · exact low55 n hn
  · exact low56 n hn
  · exact low57 n hn
  · exact low58 n hn
  · exact low59 n hn
  · exact low60 n hn
  · exact low61 n hn
  · exact low62 n hn
  · exact low63 n hn
  · exact low64 n hn

/-- So many bits there are not. -/
def Out (b : Int) : Prop := b ≤ 0 ∨ 65 ≤ b

theorem signO (n b : Int) (h : Out b) : Ret Try.prog 37 [.int .i64 n, .int .i64 b] (.int .i64 0) := by
  rcases h with h | h
  · have hh : Holds (fun k => [n, b].getD k 0) [.le (.a 1) 0] := holds_cons h holds_nil
    have r := retV hh tabNil rfl rfl (f := 37) (args := [.sx .i64 (.a 0), .sx .i64 (.a 1)]) (v := .v (.int .i64 0)) (by kernel_rfl) (by kernel_rfl) (by kernel_rfl)
    simp only [concs, conc, SX.eval] at r
    exact r
  · have hh : Holds (fun k => [n, b].getD k 0) [.ge (.a 1) 65] := holds_cons h holds_nil
    have r := retV hh tabNil rfl rfl (f := 37) (args := [.sx .i64 (.a 0), .sx .i64 (.a 1)]) (v := .v (.int .i64 0)) (by kernel_rfl) (by kernel_rfl) (by kernel_rfl)
    simp only [concs, conc, SX.eval] at r
    exact r

theorem lowO (n b : Int) (h : Out b) : Ret Try.prog 69 [.int .i64 n, .int .i64 b] (.int .i64 0) := by
  rcases h with h | h
  · have hh : Holds (fun k => [n, b].getD k 0) [.le (.a 1) 0] := holds_cons h holds_nil
    have r := retV hh tabNil rfl rfl (f := 69) (args := [.sx .i64 (.a 0), .sx .i64 (.a 1)]) (v := .v (.int .i64 0)) (by kernel_rfl) (by kernel_rfl) (by kernel_rfl)
    simp only [concs, conc, SX.eval] at r
    exact r
  · have hh : Holds (fun k => [n, b].getD k 0) [.ge (.a 1) 65] := holds_cons h holds_nil
    have r := retV hh tabNil rfl rfl (f := 69) (args := [.sx .i64 (.a 0), .sx .i64 (.a 1)]) (v := .v (.int .i64 0)) (by kernel_rfl) (by kernel_rfl) (by kernel_rfl)
    simp only [concs, conc, SX.eval] at r
    exact r

theorem fitsO (n b : Int) (h : Out b) : Ret Try.prog 64 [.int .i64 n, .int .i64 b] (.bool false) := by
  rcases h with h | h
  · have hh : Holds (fun k => [n, b].getD k 0) [.le (.a 1) 0] := holds_cons h holds_nil
    have r := retV hh tabNil rfl rfl (f := 64) (args := [.sx .i64 (.a 0), .sx .i64 (.a 1)]) (v := .v (.bool false)) (by kernel_rfl) (by kernel_rfl) (by kernel_rfl)
    simp only [concs, conc, SX.eval] at r
    exact r
  · have hh : Holds (fun k => [n, b].getD k 0) [.ge (.a 1) 65] := holds_cons h holds_nil
    have r := retV hh tabNil rfl rfl (f := 64) (args := [.sx .i64 (.a 0), .sx .i64 (.a 1)]) (v := .v (.bool false)) (by kernel_rfl) (by kernel_rfl) (by kernel_rfl)
    simp only [concs, conc, SX.eval] at r
    exact r

theorem wideO (n b : Int) (h : Out b) : Ret Try.prog 60 [.int .i64 n, .int .i64 b] (.bool false) := by
  rcases h with h | h
  · have hh : Holds (fun k => [n, b].getD k 0) [.le (.a 1) 0] := holds_cons h holds_nil
    have r := retV hh tabNil rfl rfl (f := 60) (args := [.sx .i64 (.a 0), .sx .i64 (.a 1)]) (v := .v (.bool false)) (by kernel_rfl) (by kernel_rfl) (by kernel_rfl)
    simp only [concs, conc, SX.eval] at r
    exact r
  · have hh : Holds (fun k => [n, b].getD k 0) [.ge (.a 1) 65] := holds_cons h holds_nil
    have r := retV hh tabNil rfl rfl (f := 60) (args := [.sx .i64 (.a 0), .sx .i64 (.a 1)]) (v := .v (.bool false)) (by kernel_rfl) (by kernel_rfl) (by kernel_rfl)
    simp only [concs, conc, SX.eval] at r
    exact r

abbrev tabF : List (FuncId × List AV × AV) := [(37, [.sx .i64 (.a 0), .sx .i64 (.a 1)], .sx .i64 (.a 2)), (69, [.sx .i64 (.a 0), .sx .i64 (.a 1)], .sx .i64 (.a 3))]

abbrev valF (n : Int) (b : Nat) : Nat → Int := fun k => [n, b, sgnF n b, lowF n b].getD k 0

theorem tabFOK (n : Int) (hn : In n) (b : Nat) (h1 : 1 ≤ b) (h2 : b ≤ 64) : TabOK Try.prog (valF n b) sl0 tabF := by
  intro x hx
  simp only [tabF, List.mem_cons, List.not_mem_nil, or_false] at hx
  rcases hx with rfl | rfl
  · simp only [concs, conc, SX.eval]; exact signAll n hn b h1 h2
  · simp only [concs, conc, SX.eval]; exact lowAll n hn b h1 h2

theorem fitsAll (n : Int) (hn : In n) (b : Nat) (h1 : 1 ≤ b) (h2 : b ≤ 64) : Ret Try.prog 64 [.int .i64 n, .int .i64 b] (.bool (sgnF n b == n)) := by
  have hh : Holds (valF n b) [.ge (.a 1) 1, .le (.a 1) 64] := holds_cons (show (1 : Int) ≤ (b : Int) by omega) (holds_cons (show (b : Int) ≤ 64 by omega) holds_nil)
  have r := retV hh (tabFOK n hn b h1 h2) (by kernel_rfl) (by kernel_rfl) (f := 64) (args := [.sx .i64 (.a 0), .sx .i64 (.a 1)]) (v := .sb (.eq (.a 2) (.a 0))) (by kernel_rfl) (by kernel_rfl) (by kernel_rfl)
  simp only [concs, conc, SX.eval, SB.eval] at r
  exact r

theorem wideAll (n : Int) (hn : In n) (b : Nat) (h1 : 1 ≤ b) (h2 : b ≤ 64) : Ret Try.prog 60 [.int .i64 n, .int .i64 b] (.bool (sgnF n b == n || lowF n b == n)) := by
  have hh : Holds (valF n b) [.ge (.a 1) 1, .le (.a 1) 64] := holds_cons (show (1 : Int) ≤ (b : Int) by omega) (holds_cons (show (b : Int) ≤ 64 by omega) holds_nil)
  cases he : (sgnF n b == n) with
  | true =>
    have hh' : Holds (valF n b) [.at (.eq (.a 2) (.a 0)) true, .ge (.a 1) 1, .le (.a 1) 64] := holds_cons he hh
    have r := retV hh' (tabFOK n hn b h1 h2) (by kernel_rfl) (by kernel_rfl) (f := 60) (args := [.sx .i64 (.a 0), .sx .i64 (.a 1)]) (v := .v (.bool true)) (by kernel_rfl) (by kernel_rfl) (by kernel_rfl)
    simp only [concs, conc, SX.eval] at r
    exact r
  | false =>
    have hh' : Holds (valF n b) [.at (.eq (.a 2) (.a 0)) false, .ge (.a 1) 1, .le (.a 1) 64] := holds_cons he hh
    have r := retV hh' (tabFOK n hn b h1 h2) (by kernel_rfl) (by kernel_rfl) (f := 60) (args := [.sx .i64 (.a 0), .sx .i64 (.a 1)]) (v := .sb (.eq (.a 3) (.a 0))) (by kernel_rfl) (by kernel_rfl) (by kernel_rfl)
    simp only [concs, conc, SX.eval, SB.eval] at r
    rw [Bool.false_or]
    exact r

end Go.Proofs.Ytbenfglhomiocaa.Fld
