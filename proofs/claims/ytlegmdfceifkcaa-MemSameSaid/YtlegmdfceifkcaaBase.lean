/-
  What mem.scaled, mem.sized and the document's 'in' do, as known calls.
-/
import Derived.Test.YtlegmdfceifkcaaSizedQ
import Derived.Test.YtlegmdfceifkcaaInSeven
import Derived.Test.YtlegmdfceifkcaaInFour
namespace Go.Proofs.Ytlegmdfceifkcaa.Tab
open Go.Sim
set_option maxRecDepth 100000

theorem scaledO [Syms] : CallerOK Try.prog (pureO 25 (inRes scales)) := inO_sound (by kernel_rfl) fun n w => by
  have h := scaled_any n w
  simpa [Bool.or_assoc] using h

theorem sizedO [Syms] : CallerOK Try.prog (pureO 23 (inRes sizes)) := inO_sound (by kernel_rfl) fun n => sizedQ (fun _ => n)

theorem inO [Syms] : CallerOK Try.prog (inSlO 26 [sizes, scales]) := inSlO_sound (by kernel_rfl) fun ns hn => by
  simp only [List.mem_cons, List.not_mem_nil, or_false] at hn
  rcases hn with rfl | rfl
  · exact inC_of fun val h => inSeven val h
  · exact inC_of fun val h => inFour val h

noncomputable def mo [Syms] : Caller := orElse (pureO 25 (inRes scales)) (orElse (pureO 23 (inRes sizes)) (inSlO 26 [sizes, scales]))

theorem moO [Syms] : CallerOK Try.prog mo := orElse_sound scaledO (orElse_sound sizedO inO)

end Go.Proofs.Ytlegmdfceifkcaa.Tab
