/-
  Places, numbers that are handed in: how they bear names.
-/
import Derived.Test.YtlegmdfceifkcaaBase
namespace Go.Proofs.Ytlegmdfceifkcaa.Tab
open Go.Sim
set_option maxRecDepth 100000

theorem awakeOK [Syms] : CallerOK Try.prog (known 14 yes []) := known_of_run (ids := []) (fuel := 1000) (orc := mo) moO mix (by kernel_rfl) (by kernel_rfl)

theorem knownOK [Syms] : CallerOK Try.prog (known 5 yes []) := known_of_run (ids := []) (fuel := 1000) (orc := mo) moO mix (by kernel_rfl) (by kernel_rfl)

noncomputable def moA [Syms] : Caller := orElse (known 14 yes []) mo

theorem moAO [Syms] : CallerOK Try.prog moA := orElse_sound awakeOK moO

noncomputable def moK [Syms] : Caller := orElse (known 5 yes []) mo

theorem moKO [Syms] : CallerOK Try.prog moK := orElse_sound knownOK moO

/-- A place whose numbers bear names. -/
abbrev nmA (k : Nat) : AV := .agg [.sx .i64 (.a k), .sx .i64 (.a (k + 1)), .sx .i64 (.a (k + 2)), .sx .i64 (.a (k + 3)), .sx .i64 (.a (k + 4)), .sx .i64 (.a (k + 5)), .sx .i64 (.a (k + 6))]

abbrev memV (val : Nat → Int) (k : Nat) : Value := .agg #[.int .i64 (val k), .int .i64 (val (k + 1)), .int .i64 (val (k + 2)), .int .i64 (val (k + 3)), .int .i64 (val (k + 4)), .int .i64 (val (k + 5)), .int .i64 (val (k + 6))]

/-- So many numbers, from a name on. -/
noncomputable def cellsFrom : Nat → Nat → List AV
  | _, 0 => []
  | k, n + 1 => .sx .i64 (.a k) :: cellsFrom (k + 1) n

def specs : List (FuncId × List Sh) := [(8, [.g 0 7, .i 7]), (9, [.g 0 7, .i 7]), (10, [.i 7]), (11, [.i 7])]

abbrev MemJ (val : Nat → Int) : Prop := Joint Try.prog specs 8 [memV val 0]

theorem leafM {val : Nat → Int} {F : List Fact} (h : Holds val F) (Y : List SX) (hY : Y.length = 8) (hg : @givesAll (symsOf val F h sla0) Try.prog (@mo (symsOf val F h sla0)) 1000 [nmA 0] Y specs = true) : MemJ val :=
  leafJ (orc := @mo) (args := [nmA 0]) h moO mix (by kernel_rfl) Y hY hg

/-- The error of a place, by a name. -/
def tabE : List (FuncId × List AV × AV) := [(10, [nmA 0], .sx .i64 (.a 29)), (11, [nmA 0], .sx .i64 (.a 29))]

/-- The three arguments: a place, numbers, a number. -/
abbrev argsO (n : Nat) : List AV := [nmA 0, .os 0 0 n 30 0, .sx .i64 (.a 7)]

abbrev argsL : List AV := [nmA 0, .osl 31, .sx .i64 (.a 7)]

theorem wfO (n : Nat) : wfVs (· < 1) (argsO n) := ⟨plain_wf _ (by kernel_rfl), Nat.zero_lt_one, trivial, trivial⟩

theorem wfL : wfVs (· < 0) argsL := plains_wf _ (by kernel_rfl)

/-- With sixteen numbers. -/
abbrev Law16 (f : FuncId) (val : Nat → Int) : Prop := LawO Try.prog f (argsO 16) [(1, cellsFrom 8 16)] sla0 val

abbrev LawN (f n : Nat) (val : Nat → Int) : Prop := TabOK Try.prog val sla0 tabE → LawO Try.prog f (argsO n) [(1, cellsFrom 8 n)] sla0 val

abbrev LawL (f : FuncId) (val : Nat → Int) : Prop := ∀ sla, LawO Try.prog f argsL [] sla val

abbrev LawZ (f : FuncId) (val : Nat → Int) : Prop := ∀ sla, TabOK Try.prog val sla tabE → LawO Try.prog f argsL [] sla val

theorem leafA16 {val : Nat → Int} {F : List Fact} (h : Holds val F) (hg : saysTrue (@runO (symsOf val F h sla0) Try.prog (@moA (symsOf val F h sla0)) 1000 4 (argsO 16) [(1, cellsFrom 8 16)]) = true) : Law16 4 val :=
  leafO (orc := @moA) h moAO mix (wfO 16) (by kernel_rfl) hg

theorem leafC16 {val : Nat → Int} {F : List Fact} (h : Holds val F) (hg : saysTrue (@runO (symsOf val F h sla0) Try.prog (@moK (symsOf val F h sla0)) 1000 6 (argsO 16) [(1, cellsFrom 8 16)]) = true) : Law16 6 val :=
  leafO (orc := @moK) h moKO mix (wfO 16) (by kernel_rfl) hg

theorem leafAN {val : Nat → Int} {F : List Fact} (h : Holds val F) {n : Nat} (hpl : plains (cellsFrom 8 n) = true) (hg : saysTrue (@runO (symsOf val F h sla0) Try.prog (orElse (known 14 yes []) (tabO tabE)) 1000 4 (argsO n) [(1, cellsFrom 8 n)]) = true) : LawN 4 n val :=
  fun ht => leafOT (orc := known 14 yes []) (tab := tabE) h awakeOK mix (wfO n) (by simp only [List.all_cons, List.all_nil, Bool.and_true]; exact hpl) (by kernel_rfl) (by kernel_rfl) ht hg

theorem leafCL {val : Nat → Int} {F : List Fact} (h : Holds val F) (hg : ∀ sla, saysTrue (@runO (symsOf val F h sla) Try.prog (@moK (symsOf val F h sla)) 1000 6 argsL []) = true) : LawL 6 val :=
  fun sla => leafO (orc := @moK) h moKO mix wfL rfl (hg sla)

theorem leafAL {val : Nat → Int} {F : List Fact} (h : Holds val F) (hg : ∀ sla, saysTrue (@runO (symsOf val F h sla) Try.prog (@moA (symsOf val F h sla)) 1000 4 argsL []) = true) : LawL 4 val :=
  fun sla => leafO (orc := @moA) h moAO mix wfL rfl (hg sla)

theorem leafAZ {val : Nat → Int} {F : List Fact} (h : Holds val F) (hg : ∀ sla, saysTrue (@runO (symsOf val F h sla) Try.prog (orElse (known 14 yes []) (tabO tabE)) 1000 4 argsL []) = true) : LawZ 4 val :=
  fun sla ht => leafOT (orc := known 14 yes []) (tab := tabE) h awakeOK mix wfL rfl (by kernel_rfl) (by kernel_rfl) ht (hg sla)

end Go.Proofs.Ytlegmdfceifkcaa.Tab
