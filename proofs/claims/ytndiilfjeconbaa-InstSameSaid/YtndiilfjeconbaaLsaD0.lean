/-
  The law 'InstSame': each way, run, part 0.
-/
import Derived.Test.YtndiilfjeconbaaLsaH
namespace Go.Proofs.Ytndiilfjeconbaa.Tab
open Go.Sim
set_option maxRecDepth 100000
set_option linter.unusedSimpArgs false

theorem ls_ttt_1111 : LS true true true true true true true := fun val sla h ht => leafL h (by kernel_rfl) (by kernel_rfl) ht (by kernel_rfl)

theorem ls_ttt_1011 : LS true true true true false true true := fun val sla h ht => leafL h (by kernel_rfl) (by kernel_rfl) ht (by kernel_rfl)

theorem ls_ttt_1010 : LS true true true true false true false := fun val sla h ht => leafL h (by kernel_rfl) (by kernel_rfl) ht (by kernel_rfl)

theorem ls_ttt_0101 : LS true true true false true false true := fun val sla h ht => leafL h (by kernel_rfl) (by kernel_rfl) ht (by kernel_rfl)

theorem ls_ttt_0100 : LS true true true false true false false := fun val sla h ht => leafL h (by kernel_rfl) (by kernel_rfl) ht (by kernel_rfl)

theorem ls_ttt_0001 : LS true true true false false false true := fun val sla h ht => leafL h (by kernel_rfl) (by kernel_rfl) ht (by kernel_rfl)

theorem ls_ttt_0000 : LS true true true false false false false := fun val sla h ht => leafL h (by kernel_rfl) (by kernel_rfl) ht (by kernel_rfl)

theorem ls_tft_1111 : LS true false true true true true true := fun val sla h ht => leafL h (by kernel_rfl) (by kernel_rfl) ht (by kernel_rfl)

theorem ls_tft_1011 : LS true false true true false true true := fun val sla h ht => leafL h (by kernel_rfl) (by kernel_rfl) ht (by kernel_rfl)

theorem ls_tft_1010 : LS true false true true false true false := fun val sla h ht => leafL h (by kernel_rfl) (by kernel_rfl) ht (by kernel_rfl)

theorem ls_tft_0101 : LS true false true false true false true := fun val sla h ht => leafL h (by kernel_rfl) (by kernel_rfl) ht (by kernel_rfl)

theorem ls_tft_0100 : LS true false true false true false false := fun val sla h ht => leafL h (by kernel_rfl) (by kernel_rfl) ht (by kernel_rfl)

theorem ls_tft_0001 : LS true false true false false false true := fun val sla h ht => leafL h (by kernel_rfl) (by kernel_rfl) ht (by kernel_rfl)

theorem ls_tft_0000 : LS true false true false false false false := fun val sla h ht => leafL h (by kernel_rfl) (by kernel_rfl) ht (by kernel_rfl)

theorem lb_tft (val : Nat → Int) (sla : Nat → Option Addr × Nat) (h : Holds val (.ge (.a 12) 10 :: lenF 0 true)) : LawS true false true sla val := longL h (by kernel_rfl)

theorem ls_ftt_1111 : LS false true true true true true true := fun val sla h ht => leafL h (by kernel_rfl) (by kernel_rfl) ht (by kernel_rfl)

theorem ls_ftt_1011 : LS false true true true false true true := fun val sla h ht => leafL h (by kernel_rfl) (by kernel_rfl) ht (by kernel_rfl)

theorem ls_ftt_1010 : LS false true true true false true false := fun val sla h ht => leafL h (by kernel_rfl) (by kernel_rfl) ht (by kernel_rfl)

theorem ls_ftt_0101 : LS false true true false true false true := fun val sla h ht => leafL h (by kernel_rfl) (by kernel_rfl) ht (by kernel_rfl)

theorem ls_ftt_0100 : LS false true true false true false false := fun val sla h ht => leafL h (by kernel_rfl) (by kernel_rfl) ht (by kernel_rfl)

theorem ls_ftt_0001 : LS false true true false false false true := fun val sla h ht => leafL h (by kernel_rfl) (by kernel_rfl) ht (by kernel_rfl)

theorem ls_ftt_0000 : LS false true true false false false false := fun val sla h ht => leafL h (by kernel_rfl) (by kernel_rfl) ht (by kernel_rfl)

theorem la_ftt (val : Nat → Int) (sla : Nat → Option Addr × Nat) (h : Holds val [.ge (.a 10) 10]) : LawS false true true sla val := longL h (by kernel_rfl)

theorem ls_fft_1111 : LS false false true true true true true := fun val sla h ht => leafL h (by kernel_rfl) (by kernel_rfl) ht (by kernel_rfl)

theorem ls_fft_1011 : LS false false true true false true true := fun val sla h ht => leafL h (by kernel_rfl) (by kernel_rfl) ht (by kernel_rfl)

theorem ls_fft_1010 : LS false false true true false true false := fun val sla h ht => leafL h (by kernel_rfl) (by kernel_rfl) ht (by kernel_rfl)

theorem ls_fft_0101 : LS false false true false true false true := fun val sla h ht => leafL h (by kernel_rfl) (by kernel_rfl) ht (by kernel_rfl)

theorem ls_fft_0100 : LS false false true false true false false := fun val sla h ht => leafL h (by kernel_rfl) (by kernel_rfl) ht (by kernel_rfl)

theorem ls_fft_0001 : LS false false true false false false true := fun val sla h ht => leafL h (by kernel_rfl) (by kernel_rfl) ht (by kernel_rfl)

theorem ls_fft_0000 : LS false false true false false false false := fun val sla h ht => leafL h (by kernel_rfl) (by kernel_rfl) ht (by kernel_rfl)

theorem la_fft (val : Nat → Int) (sla : Nat → Option Addr × Nat) (h : Holds val [.ge (.a 10) 10]) : LawS false false true sla val := longL h (by kernel_rfl)

theorem lb_fft (val : Nat → Int) (sla : Nat → Option Addr × Nat) (h : Holds val (.ge (.a 12) 10 :: lenF 0 false)) : LawS false false true sla val := longL h (by kernel_rfl)

end Go.Proofs.Ytndiilfjeconbaa.Tab
