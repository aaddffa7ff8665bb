/-
  The map of scales, as a known call.
-/
import Derived.Test.YtlggmhchgicjkaaSimB
import Derived.Test.YtlggmhchgicjkaaScaled
namespace Go.Proofs.Ytlggmhchgicjkaa.Tab
open Go.Sim
set_option maxRecDepth 100000

theorem mixK : Try.prog.follows .mixedOrders = true := by kernel_rfl

noncomputable def sc [Syms] : Caller := pureO 73 (inRes [1, 2, 4, 8])

theorem scO [Syms] : CallerOK Try.prog sc := inO_sound (by kernel_rfl) fun n w => by
  have h := scaled_any n w
  simpa [Bool.or_assoc] using h

end Go.Proofs.Ytlggmhchgicjkaa.Tab
