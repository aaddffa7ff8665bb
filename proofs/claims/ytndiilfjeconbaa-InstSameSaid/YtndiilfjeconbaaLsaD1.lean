/-
  The law 'InstSame': each way, run, part 1.
-/
import Derived.Test.YtndiilfjeconbaaLsaH
namespace Go.Proofs.Ytndiilfjeconbaa.Tab
open Go.Sim
set_option maxRecDepth 100000
set_option linter.unusedSimpArgs false

theorem ls_ttf_1111 : LS true true false true true true true := fun val sla h ht => leafL h (by kernel_rfl) (by kernel_rfl) ht (by kernel_rfl)

theorem ls_ttf_1011 : LS true true false true false true true := fun val sla h ht => leafL h (by kernel_rfl) (by kernel_rfl) ht (by kernel_rfl)

theorem ls_ttf_1010 : LS true true false true false true false := fun val sla h ht => leafL h (by kernel_rfl) (by kernel_rfl) ht (by kernel_rfl)

theorem ls_ttf_0101 : LS true true false false true false true := fun val sla h ht => leafL h (by kernel_rfl) (by kernel_rfl) ht (by kernel_rfl)

theorem ls_ttf_0100 : LS true true false false true false false := fun val sla h ht => leafL h (by kernel_rfl) (by kernel_rfl) ht (by kernel_rfl)

theorem ls_ttf_0001 : LS true true false false false false true := fun val sla h ht => leafL h (by kernel_rfl) (by kernel_rfl) ht (by kernel_rfl)

theorem ls_ttf_0000 : LS true true false false false false false := fun val sla h ht => leafL h (by kernel_rfl) (by kernel_rfl) ht (by kernel_rfl)

theorem lc_ttf (val : Nat → Int) (sla : Nat → Option Addr × Nat) (h : Holds val (.ge (.a 14) 10 :: (lenF 0 true ++ lenF 1 true))) : LawS true true false sla val := longL h (by kernel_rfl)

theorem ls_tff_1111 : LS true false false true true true true := fun val sla h ht => leafL h (by kernel_rfl) (by kernel_rfl) ht (by kernel_rfl)

theorem ls_tff_1011 : LS true false false true false true true := fun val sla h ht => leafL h (by kernel_rfl) (by kernel_rfl) ht (by kernel_rfl)

theorem ls_tff_1010 : LS true false false true false true false := fun val sla h ht => leafL h (by kernel_rfl) (by kernel_rfl) ht (by kernel_rfl)

theorem ls_tff_0101 : LS true false false false true false true := fun val sla h ht => leafL h (by kernel_rfl) (by kernel_rfl) ht (by kernel_rfl)

theorem ls_tff_0100 : LS true false false false true false false := fun val sla h ht => leafL h (by kernel_rfl) (by kernel_rfl) ht (by kernel_rfl)

theorem ls_tff_0001 : LS true false false false false false true := fun val sla h ht => leafL h (by kernel_rfl) (by kernel_rfl) ht (by kernel_rfl)

theorem ls_tff_0000 : LS true false false false false false false := fun val sla h ht => leafL h (by kernel_rfl) (by kernel_rfl) ht (by kernel_rfl)

theorem lb_tff (val : Nat → Int) (sla : Nat → Option Addr × Nat) (h : Holds val (.ge (.a 12) 10 :: lenF 0 true)) : LawS true false false sla val := longL h (by kernel_rfl)

theorem lc_tff (val : Nat → Int) (sla : Nat → Option Addr × Nat) (h : Holds val (.ge (.a 14) 10 :: (lenF 0 true ++ lenF 1 false))) : LawS true false false sla val := longL h (by kernel_rfl)

theorem ls_ftf_1111 : LS false true false true true true true := fun val sla h ht => leafL h (by kernel_rfl) (by kernel_rfl) ht (by kernel_rfl)

theorem ls_ftf_1011 : LS false true false true false true true := fun val sla h ht => leafL h (by kernel_rfl) (by kernel_rfl) ht (by kernel_rfl)

theorem ls_ftf_1010 : LS false true false true false true false := fun val sla h ht => leafL h (by kernel_rfl) (by kernel_rfl) ht (by kernel_rfl)

theorem ls_ftf_0101 : LS false true false false true false true := fun val sla h ht => leafL h (by kernel_rfl) (by kernel_rfl) ht (by kernel_rfl)

theorem ls_ftf_0100 : LS false true false false true false false := fun val sla h ht => leafL h (by kernel_rfl) (by kernel_rfl) ht (by kernel_rfl)

theorem ls_ftf_0001 : LS false true false false false false true := fun val sla h ht => leafL h (by kernel_rfl) (by kernel_rfl) ht (by kernel_rfl)

theorem ls_ftf_0000 : LS false true false false false false false := fun val sla h ht => leafL h (by kernel_rfl) (by kernel_rfl) ht (by kernel_rfl)

theorem la_ftf (val : Nat → Int) (sla : Nat → Option Addr × Nat) (h : Holds val [.ge (.a 10) 10]) : LawS false true false sla val := longL h (by kernel_rfl)

theorem lc_ftf (val : Nat → Int) (sla : Nat → Option Addr × Nat) (h : Holds val (.ge (.a 14) 10 :: (lenF 0 false ++ lenF 1 true))) : LawS false true false sla val := longL h (by kernel_rfl)

theorem ls_fff_1111 : LS false false false true true true true := fun val sla h ht => leafL h (by kernel_rfl) (by kernel_rfl) ht (by kernel_rfl)

theorem ls_fff_1011 : LS false false false true false true true := fun val sla h ht => leafL h (by kernel_rfl) (by kernel_rfl) ht (by kernel_rfl)

theorem ls_fff_1010 : LS false false false true false true false := fun val sla h ht => leafL h (by kernel_rfl) (by kernel_rfl) ht (by kernel_rfl)

theorem ls_fff_0101 : LS false false false false true false true := fun val sla h ht => leafL h (by kernel_rfl) (by kernel_rfl) ht (by kernel_rfl)

theorem ls_fff_0100 : LS false false false false true false false := fun val sla h ht => leafL h (by kernel_rfl) (by kernel_rfl) ht (by kernel_rfl)

theorem ls_fff_0001 : LS false false false false false false true := fun val sla h ht => leafL h (by kernel_rfl) (by kernel_rfl) ht (by kernel_rfl)

theorem ls_fff_0000 : LS false false false false false false false := fun val sla h ht => leafL h (by kernel_rfl) (by kernel_rfl) ht (by kernel_rfl)

theorem la_fff (val : Nat → Int) (sla : Nat → Option Addr × Nat) (h : Holds val [.ge (.a 10) 10]) : LawS false false false sla val := longL h (by kernel_rfl)

theorem lb_fff (val : Nat → Int) (sla : Nat → Option Addr × Nat) (h : Holds val (.ge (.a 12) 10 :: lenF 0 false)) : LawS false false false sla val := longL h (by kernel_rfl)

theorem lc_fff (val : Nat → Int) (sla : Nat → Option Addr × Nat) (h : Holds val (.ge (.a 14) 10 :: (lenF 0 false ++ lenF 1 false))) : LawS false false false sla val := longL h (by kernel_rfl)

end Go.Proofs.Ytndiilfjeconbaa.Tab
