/-
  What the document's Low, Sign, Fits and Wide do, of any number and any width.
-/
import Derived.Test.YtclgmeoofmidfaaFldR1
import Derived.Test.YtclgmeoofmidfaaFldR2
import Derived.Test.YtclgmeoofmidfaaFldR3
import Derived.Test.YtclgmeoofmidfaaFldR4
import Derived.Test.YtclgmeoofmidfaaFld
namespace Go.Proofs.Ytclgmeoofmidfaa.Fld
open Go.Sim
set_option maxRecDepth 100000

theorem rlowAll (n : Int) (hn : In n) (b : Nat) (h1 : 1 ≤ b) (h2 : b ≤ 64) : Ret Try.prog 23 [.int .i64 n, .int .i64 b] (.int .i64 (lowF n b)) := by
  have h : b = 1 ∨ b = 2 ∨ b = 3 ∨ b = 4 ∨ b = 5 ∨ b = 6 ∨ b = 7 ∨ b = 8 ∨ b = 9 ∨ b = 10 ∨ b = 11 ∨ b = 12 ∨ b = 13 ∨ b = 14 ∨ b = 15 ∨ b = 16 ∨ b = 17 ∨ b = 18 ∨ b = 19 ∨ b = 20 ∨ b = 21 ∨ b = 22 ∨ b = 23 ∨ b = 24 ∨ b = 25 ∨ b = 26 ∨ b = 27 ∨ b = 28 ∨ b = 29 ∨ b = 30 ∨ b = 31 ∨ b = 32 ∨ b = 33 ∨ b = 34 ∨ b = 35 ∨ b = 36 ∨ b = 37 ∨ b = 38 ∨ b = 39 ∨ b = 40 ∨ b = 41 ∨ b = 42 ∨ b = 43 ∨ b = 44 ∨ b = 45 ∨ b = 46 ∨ b = 47 ∨ b = 48 ∨ b = 49 ∨ b = 50 ∨ b = 51 ∨ b = 52 ∨ b = 53 ∨ b = 54 ∨ b = 55 ∨ b = 56 ∨ b = 57 ∨ b = 58 ∨ b = 59 ∨ b = 60 ∨ b = 61 ∨ b = 62 ∨ b = 63 ∨ b = 64 := by omega
  rcases h with rfl | rfl | rfl | rfl | rfl | rfl | rfl | rfl | rfl | rfl | rfl | rfl | rfl | rfl | rfl | rfl | rfl | rfl | rfl | rfl | rfl | rfl | rfl | rfl | rfl | rfl | rfl | rfl | rfl | rfl | rfl | rfl | rfl | rfl | rfl | rfl | rfl | rfl | rfl | rfl | rfl | rfl | rfl | rfl | rfl | rfl | rfl | rfl | rfl | rfl | rfl | rfl | rfl | rfl | rfl | rfl | rfl | rfl | rfl | rfl | rfl | rfl | rfl | rfl
  · exact rlow1 n hn
  · exact rlow2 n hn
  · exact rlow3 n hn
  · exact rlow4 n hn
  · exact rlow5 n hn
  · exact rlow6 n hn
  · exact rlow7 n hn
  · exact rlow8 n hn
  · exact rlow9 n hn
  · exact rlow10 n hn
  · exact rlow11 n hn
  · exact rlow12 n hn
  · exact rlow13 n hn
  · exact rlow14 n hn
  · exact rlow15 n hn
  · exact rlow16 n hn
  · exact rlow17 n hn
  · exact rlow18 n hn
  · exact rlow19 n hn
  · exact rlow20 n hn
  · exact rlow21 n hn
  · exact rlow22 n hn
  · exact rlow23 n hn
  · exact rlow24 n hn
  · exact rlow25 n hn
  · exact rlow26 n hn
  · exact rlow27 n hn
  · exact rlow28 n hn
  · exact rlow29 n hn
  · exact rlow30 n hn
  · exact rlow31 n hn
  · exact rlow32 n hn
  · exact rlow33 n hn
  · exact rlow34 n hn
  · exact rlow35 n hn
  · exact rlow36 n hn
  · exact rlow37 n hn
  · exact rlow38 n hn
  · exact rlow39 n hn
  · exact rlow40 n hn
  · exact rlow41 n hn
  · exact rlow42 n hn
  · exact rlow43 n hn
  · exact rlow44 n hn
  · exact rlow45 n hn
  · exact rlow46 n hn
  · exact rlow47 n hn
  · exact rlow48 n hn
  · exact rlow49 n hn
  · exact rlow50 n hn
  · exact rlow51 n hn
  · exact rlow52 n hn
  · exact rlow53 n hn
  · exact rlow54 n hn
  · exact rlow55 n hn
  · exact rlow56 n hn
  · exact rlow57 n hn
  · exact rlow58 n hn
  · exact rlow59 n hn
  · exact rlow60 n hn
  · exact rlow61 n hn
  · exact rlow62 n hn
  · exact rlow63 n hn
  · exact rlow64 n hn

theorem rsignAll (n : Int) (hn : In n) (b : Nat) (h1 : 1 ≤ b) (h2 : b ≤ 64) : Ret Try.prog 21 [.int .i64 n, .int .i64 b] (.int .i64 (sgnF n b)) := by
  have h : b = 1 ∨ b = 2 ∨ b = 3 ∨ b = 4 ∨ b = 5 ∨ b = 6 ∨ b = 7 ∨ b = 8 ∨ b = 9 ∨ b = 10 ∨ b = 11 ∨ b = 12 ∨ b = 13 ∨ b = 14 ∨ b = 15 ∨ b = 16 ∨ b = 17 ∨ b = 18 ∨ b = 19 ∨ b = 20 ∨ b = 21 ∨ b = 22 ∨ b = 23 ∨ b = 24 ∨ b = 25 ∨ b = 26 ∨ b = 27 ∨ b = 28 ∨ b = 29 ∨ b = 30 ∨ b = 31 ∨ b = 32 ∨ b = 33 ∨ b = 34 ∨ b = 35 ∨ b = 36 ∨ b = 37 ∨ b = 38 ∨ b = 39 ∨ b = 40 ∨ b = 41 ∨ b = 42 ∨ b = 43 ∨ b = 44 ∨ b = 45 ∨ b = 46 ∨ b = 47 ∨ b = 48 ∨ b = 49 ∨ b = 50 ∨ b = 51 ∨ b = 52 ∨ b = 53 ∨ b = 54 ∨ b = 55 ∨ b = 56 ∨ b = 57 ∨ b = 58 ∨ b = 59 ∨ b = 60 ∨ b = 61 ∨ b = 62 ∨ b = 63 ∨ b = 64 := by omega
  rcases h with rfl | rfl | rfl | rfl | rfl | rfl | rfl | rfl | rfl | rfl | rfl | rfl | rfl | rfl | rfl | rfl | rfl | rfl | rfl | rfl | rfl | rfl | rfl | rfl | rfl | rfl | rfl | rfl | rfl | rfl | rfl | rfl | rfl | rfl | rfl | rfl | rfl | rfl | rfl | rfl | rfl | rfl | rfl | rfl | rfl | rfl | rfl | rfl | rfl | rfl | rfl | rfl | rfl | rfl | rfl | rfl | rfl | rfl | rfl | rfl | rfl | rfl | rfl | rfl
  · exact rsign1 n hn
  · exact rsign2 n hn
  · exact rsign3 n hn
  · exact rsign4 n hn
  · exact rsign5 n hn
  · exact rsign6 n hn
  · exact rsign7 n hn
  · exact rsign8 n hn
  · exact rsign9 n hn
  · exact rsign10 n hn
  · exact rsign11 n hn
  · exact rsign12 n hn
  · exact rsign13 n hn
  · exact rsign14 n hn
  · exact rsign15 n hn
  · exact rsign16 n hn
  · exact rsign17 n hn
  · exact rsign18 n hn
  · exact rsign19 n hn
  · exact rsign20 n hn
  · exact rsign21 n hn
  · exact rsign22 n hn
  · exact rsign23 n hn
  · exact rsign24 n hn
  · exact rsign25 n hn
  · exact rsign26 n hn
  · exact rsign27 n hn
  · exact rsign28 n hn
  · exact rsign29 n hn
  · exact rsign30 n hn
  · exact rsign31 n hn
  · exact rsign32 n hn
  · exact rsign33 n hn
  · exact rsign34 n hn
  · exact rsign35 n hn
  · exact rsign36 n hn
  · exact rsign37 n hn
  · exact rsign38 n hn
  · exact rsign39 n hn
  · exact rsign40 n hn
  · exact rsign41 n hn
  · exact rsign42 n hn
  · exact rsign43 n hn
  · exact rsign44 n hn
  · exact rsign45 n hn
  · exact rsign46 n hn
  · exact rsign47 n hn
  · exact rsign48 n hn
  · exact rsign49 n hn
  · exact rsign50 n hn
  · exact rsign51 n hn
  · exact rsign52 n hn
  · exact rsign53 n hn
  · exact rsign54 n hn
  · exact rsign55 n hn
  · exact rsign56 n hn
  · exact rsign57 n hn
  · exact rsign58 n hn
  · exact rsign59 n hn
  · exact rsign60 n hn
  · exact rsign61 n hn
  · exact rsign62 n hn
  · exact rsign63 n hn
  · exact rsign64 n hn

theorem rfitsAll (n : Int) (hn : In n) (b : Nat) (h1 : 1 ≤ b) (h2 : b ≤ 64) : Ret Try.prog 17 [.int .i64 n, .int .i64 b] (.bool (sgnF n b == n)) := by
  have h : b = 1 ∨ b = 2 ∨ b = 3 ∨ b = 4 ∨ b = 5 ∨ b = 6 ∨ b = 7 ∨ b = 8 ∨ b = 9 ∨ b = 10 ∨ b = 11 ∨ b = 12 ∨ b = 13 ∨ b = 14 ∨ b = 15 ∨ b = 16 ∨ b = 17 ∨ b = 18 ∨ b = 19 ∨ b = 20 ∨ b = 21 ∨ b = 22 ∨ b = 23 ∨ b = 24 ∨ b = 25 ∨ b = 26 ∨ b = 27 ∨ b = 28 ∨ b = 29 ∨ b = 30 ∨ b = 31 ∨ b = 32 ∨ b = 33 ∨ b = 34 ∨ b = 35 ∨ b = 36 ∨ b = 37 ∨ b = 38 ∨ b = 39 ∨ b = 40 ∨ b = 41 ∨ b = 42 ∨ b = 43 ∨ b = 44 ∨ b = 45 ∨ b = 46 ∨ b = 47 ∨ b = 48 ∨ b = 49 ∨ b = 50 ∨ b = 51 ∨ b = 52 ∨ b = 53 ∨ b = 54 ∨ b = 55 ∨ b = 56 ∨ b = 57 ∨ b = 58 ∨ b = 59 ∨ b = 60 ∨ b = 61 ∨ b = 62 ∨ b = 63 ∨ b = 64 := by omega
  rcases h with rfl | rfl | rfl | rfl | rfl | rfl | rfl | rfl | rfl | rfl | rfl | rfl | rfl | rfl | rfl | rfl | rfl | rfl | rfl | rfl | rfl | rfl | rfl | rfl | rfl | rfl | rfl | rfl | rfl | rfl | rfl | rfl | rfl | rfl | rfl | rfl | rfl | rfl | rfl | rfl | rfl | rfl | rfl | rfl | rfl | rfl | rfl | rfl | rfl | rfl | rfl | rfl | rfl | rfl | rfl | rfl | rfl | rfl | rfl | rfl | rfl | rfl | rfl | rfl
  · exact rfits1 n hn
  · exact rfits2 n hn
  · exact rfits3 n hn
  · exact rfits4 n hn
  · exact rfits5 n hn
  · exact rfits6 n hn
  · exact rfits7 n hn
  · exact rfits8 n hn
  · exact rfits9 n hn
  · exact rfits10 n hn
  · exact rfits11 n hn
  · exact rfits12 n hn
  · exact rfits13 n hn
  · exact rfits14 n hn
  · exact rfits15 n hn
  · exact rfits16 n hn
  · exact rfits17 n hn
  · exact rfits18 n hn
  · exact rfits19 n hn
  · exact rfits20 n hn
  · exact rfits21 n hn
  · exact rfits22 n hn
  · exact rfits23 n hn
  · exact rfits24 n hn
  · exact rfits25 n hn
  · exact rfits26 n hn
  · exact rfits27 n hn
  · exact rfits28 n hn
  · exact rfits29 n hn
  · exact rfits30 n hn
  · exact rfits31 n hn
  · exact rfits32 n hn
  · exact rfits33 n hn
  · exact rfits34 n hn
  · exact rfits35 n hn
  · exact rfits36 n hn
  · exact rfits37 n hn
  · exact rfits38 n hn
  · exact rfits39 n hn
  · exact rfits40 n hn
  · exact rfits41 n hn
  · exact rfits42 n hn
  · exact rfits43 n hn
  · exact rfits44 n hn
  · exact rfits45 n hn
  · exact rfits46 n hn
  · exact rfits47 n hn
  · exact rfits48 n hn
  · exact rfits49 n hn
  · exact rfits50 n hn
  · exact rfits51 n hn
  · exact rfits52 n hn
  · exact rfits53 n hn
  · exact rfits54 n hn
  · exact rfits55 n hn
  · exact rfits56 n hn
  · exact rfits57 n hn
  · exact rfits58 n hn
  · exact rfits59 n hn
  · exact rfits60 n hn
  · exact rfits61 n hn
  · exact rfits62 n hn
  · exact rfits63 n hn
  · exact rfits64 n hn

theorem rwideAll (n : Int) (hn : In n) (b : Nat) (h1 : 1 ≤ b) (h2 : b ≤ 64) : Ret Try.prog 19 [.int .i64 n, .int .i64 b] (.bool (sgnF n b == n || lowF n b == n)) := by
  have h : b = 1 ∨ b = 2 ∨ b = 3 ∨ b = 4 ∨ b = 5 ∨ b = 6 ∨ b = 7 ∨ b = 8 ∨ b = 9 ∨ b = 10 ∨ b = 11 ∨ b = 12 ∨ b = 13 ∨ b = 14 ∨ b = 15 ∨ b = 16 ∨ b = 17 ∨ b = 18 ∨ b = 19 ∨ b = 20 ∨ b = 21 ∨ b = 22 ∨ b = 23 ∨ b = 24 ∨ b = 25 ∨ b = 26 ∨ b = 27 ∨ b = 28 ∨ b = 29 ∨ b = 30 ∨ b = 31 ∨ b = 32 ∨ b = 33 ∨ b = 34 ∨ b = 35 ∨ b = 36 ∨ b = 37 ∨ b = 38 ∨ b = 39 ∨ b = 40 ∨ b = 41 ∨ b = 42 ∨ b = 43 ∨ b = 44 ∨ b = 45 ∨ b = 46 ∨ b = 47 ∨ b = 48 ∨ b = 49 ∨ b = 50 ∨ b = 51 ∨ b = 52 ∨ b = 53 ∨ b = 54 ∨ b = 55 ∨ b = 56 ∨ b = 57 ∨ b = 58 ∨ b = 59 ∨ b = 60 ∨ b = 61 ∨ b = 62 ∨ b = 63 ∨ b = 64 := by omega
  rcases h with rfl | rfl | rfl | rfl | rfl | rfl | rfl | rfl | rfl | rfl | rfl | rfl | rfl | rfl | rfl | rfl | rfl | rfl | rfl | rfl | rfl | rfl | rfl | rfl | rfl | rfl | rfl | rfl | rfl | rfl | rfl | rfl | rfl | rfl | rfl | rfl | rfl | rfl | rfl | rfl | rfl | rfl | rfl | rfl | rfl | rfl | rfl | rfl | rfl | rfl | rfl | rfl | rfl | rfl | rfl | rfl | rfl | rfl | rfl | rfl | rfl | rfl | rfl | rfl
  · exact rwide1 n hn
  · exact rwide2 n hn
  · exact rwide3 n hn
  · exact rwide4 n hn
  · exact rwide5 n hn
  · exact rwide6 n hn
  · exact rwide7 n hn
  · exact rwide8 n hn
  · exact rwide9 n hn
  · exact rwide10 n hn
  · exact rwide11 n hn
  · exact rwide12 n hn
  · exact rwide13 n hn
  · exact rwide14 n hn
  · exact rwide15 n hn
  · exact rwide16 n hn
  · exact rwide17 n hn
  · exact rwide18 n hn
  · exact rwide19 n hn
  · exact rwide20 n hn
  · exact rwide21 n hn
  · exact rwide22 n hn
  · exact rwide23 n hn
  · exact rwide24 n hn
  · exact rwide25 n hn
  · exact rwide26 n hn
  · exact rwide27 n hn
  · exact rwide28 n hn
  · exact rwide29 n hn
  · exact rwide30 n hn
  · exact rwide31 n hn
  · exact rwide32 n hn
  · exact rwide33 n hn
  · exact rwide34 n hn
  · exact rwide35 n hn
  · exact rwide36 n hn
  · exact rwide37 n hn
  · exact rwide38 n hn
  · exact rwide39 n hn
  · exact rwide40 n hn
  · exact rwide41 n hn
  · exact rwide42 n hn
  · exact rwide43 n hn
  · exact rwide44 n hn
  · exact rwide45 n hn
  · exact rwide46 n hn
  · exact rwide47 n hn
  · exact rwide48 n hn
  · exact rwide49 n hn
  · exact rwide50 n hn
  · exact rwide51 n hn
  · exact rwide52 n hn
  · exact rwide53 n hn
  · exact rwide54 n hn
  · exact rwide55 n hn
  · exact rwide56 n hn
  · exact rwide57 n hn
  · exact rwide58 n hn
  · exact rwide59 n hn
  · exact rwide60 n hn
  · exact rwide61 n hn
  · exact rwide62 n hn
  · exact rwide63 n hn
  · exact rwide64 n hn

theorem rsignO (n b : Int) (h : Out b) : Ret Try.prog 21 [.int .i64 n, .int .i64 b] (.int .i64 0) := by
  rcases h with h | h
  · have hh : Holds (fun k => [n, b].getD k 0) [.le (.a 1) 0] := holds_cons h holds_nil
    exact retV hh tabNil rfl rfl (f := 21) (args := [.sx .i64 (.a 0), .sx .i64 (.a 1)]) (v := .v (.int .i64 0)) (by kernel_rfl) (by kernel_rfl) (by kernel_rfl)
  · have hh : Holds (fun k => [n, b].getD k 0) [.ge (.a 1) 65] := holds_cons h holds_nil
    exact retV hh tabNil rfl rfl (f := 21) (args := [.sx .i64 (.a 0), .sx .i64 (.a 1)]) (v := .v (.int .i64 0)) (by kernel_rfl) (by kernel_rfl) (by kernel_rfl)

theorem rlowO (n b : Int) (h : Out b) : Ret Try.prog 23 [.int .i64 n, .int .i64 b] (.int .i64 0) := by
  rcases h with h | h
  · have hh : Holds (fun k => [n, b].getD k 0) [.le (.a 1) 0] := holds_cons h holds_nil
    exact retV hh tabNil rfl rfl (f := 23) (args := [.sx .i64 (.a 0), .sx .i64 (.a 1)]) (v := .v (.int .i64 0)) (by kernel_rfl) (by kernel_rfl) (by kernel_rfl)
  · have hh : Holds (fun k => [n, b].getD k 0) [.ge (.a 1) 65] := holds_cons h holds_nil
    exact retV hh tabNil rfl rfl (f := 23) (args := [.sx .i64 (.a 0), .sx .i64 (.a 1)]) (v := .v (.int .i64 0)) (by kernel_rfl) (by kernel_rfl) (by kernel_rfl)

theorem rfitsO (n b : Int) (h : Out b) : Ret Try.prog 17 [.int .i64 n, .int .i64 b] (.bool false) := by
  rcases h with h | h
  · have hh : Holds (fun k => [n, b].getD k 0) [.le (.a 1) 0] := holds_cons h holds_nil
    exact retV hh tabNil rfl rfl (f := 17) (args := [.sx .i64 (.a 0), .sx .i64 (.a 1)]) (v := .v (.bool false)) (by kernel_rfl) (by kernel_rfl) (by kernel_rfl)
  · have hh : Holds (fun k => [n, b].getD k 0) [.ge (.a 1) 65] := holds_cons h holds_nil
    exact retV hh tabNil rfl rfl (f := 17) (args := [.sx .i64 (.a 0), .sx .i64 (.a 1)]) (v := .v (.bool false)) (by kernel_rfl) (by kernel_rfl) (by kernel_rfl)

theorem rwideO (n b : Int) (h : Out b) : Ret Try.prog 19 [.int .i64 n, .int .i64 b] (.bool false) := by
  rcases h with h | h
  · have hh : Holds (fun k => [n, b].getD k 0) [.le (.a 1) 0] := holds_cons h holds_nil
    exact retV hh tabNil rfl rfl (f := 19) (args := [.sx .i64 (.a 0), .sx .i64 (.a 1)]) (v := .v (.bool false)) (by kernel_rfl) (by kernel_rfl) (by kernel_rfl)
  · have hh : Holds (fun k => [n, b].getD k 0) [.ge (.a 1) 65] := holds_cons h holds_nil
    exact retV hh tabNil rfl rfl (f := 19) (args := [.sx .i64 (.a 0), .sx .i64 (.a 1)]) (v := .v (.bool false)) (by kernel_rfl) (by kernel_rfl) (by kernel_rfl)

end Go.Proofs.Ytclgmeoofmidfaa.Fld
