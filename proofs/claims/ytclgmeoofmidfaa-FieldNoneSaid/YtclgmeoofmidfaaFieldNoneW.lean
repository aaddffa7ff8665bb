/-
  'FieldNone' says true of any size.
-/
import Derived.Test.YtclgmeoofmidfaaSimB
import Derived.Test.YtclgmeoofmidfaaChecked
import Derived.KernelRfl
namespace Go.Proofs.Ytclgmeoofmidfaa.fieldNone
open Go.Sim
set_option maxRecDepth 100000

theorem mix : Try.prog.follows .mixedOrders = true := by kernel_rfl

abbrev args : List AV := [.sx .i64 (.a 0), .sb (.eq (.a 1) (.c 1))]

theorem says (val : Nat → Int) : Ret Try.prog 6 [.int .i64 (val 0), .bool (val 1 == 1)] (.bool true) :=
  leafT (orc := noOrc) (fuel := 1000) (sla := fun _ => (none, 0)) (F := []) (args := args) holds_nil noOrc_sound mix (by kernel_rfl) (by kernel_rfl)

theorem walk (a : Int) (_ : (Lit.int .i64 a).wf = true) (b : Bool) (w : World) :
    Calls Try.prog 6 #[.int .i64 a, .bool b] w fun e w' => e = .returned (.bool true) ∧ RowKit.Below w.heap.size w w' := by
  have := says (fun k => match k with | 0 => a | _ => if b then 1 else 0) w
  cases b <;> exact this

end Go.Proofs.Ytclgmeoofmidfaa.fieldNone
