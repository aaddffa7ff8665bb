/-
  The law 'FieldTells', of no bytes, or of too many.
-/
import Derived.Test.YtclgmeoofmidfaaTellsH
namespace Go.Proofs.Ytclgmeoofmidfaa.TellsL
open Go.Sim Go.Proofs.Ytclgmeoofmidfaa.Fld
set_option maxRecDepth 100000

theorem b100_eq : b100 = (List.range 100).map (fun k => SX.wrap .u8 (.a (100 + k))) := rfl

theorem c100_eq : c100 = (List.range 100).map (fun k => AV.sx .u8 (.wrap .u8 (.a (100 + k)))) := rfl

theorem b100_get (j : Nat) (h : j < 100) : b100[j]? = some (.wrap .u8 (.a (100 + j))) := by
  rw [b100_eq, List.getElem?_map, List.getElem?_range h]
  rfl

theorem c100_get (j : Nat) (h : j < 100) : c100[j]? = some (.sx .u8 (.wrap .u8 (.a (100 + j)))) := by
  rw [c100_eq, List.getElem?_map, List.getElem?_range h]
  rfl

/-- Of no bytes. -/
abbrev LawE (sla : Nat → Option Addr × Nat) (size : AV) (val : Nat → Int) : Prop := LawO Try.prog 3 [a 0, a 1, size, .osl 11, a 3, bo 4] [] sla val

noncomputable abbrev runE (sla : Nat → Option Addr × Nat) (val : Nat → Int) (F : List Fact) (h : Holds val F) (size : AV) (tab : List (FuncId × List AV × AV)) : Bool :=
  saysTrue (@runO (symsOf val F h sla) Try.prog (orElse (known 24 yes []) (orElse (tabO tab) (@slTab (symsOf val F h sla) (stab 0 size)))) 1000 3 [a 0, a 1, size, .osl 11, a 3, bo 4] [])

theorem leafE {sla : Nat → Option Addr × Nat} {val : Nat → Int} {F : List Fact} (h : Holds val F) {size : AV} {tab : List (FuncId × List AV × AV)} (hw : wfV (· < 0) size) (hb : tab.all (fun x => bodyOK Try.prog x.1) = true) (hp : tab.all (fun x => plain x.2.2 && plains x.2.1) = true)
    (hb' : (stab 0 size).all (fun x => bodyOK Try.prog x.1) = true) (hp' : (stab 0 size).all (fun x => plain x.2.2.2 && plains x.2.2.1) = true) (hg : runE sla val F h size tab = true) (ht : TabOK Try.prog val sla tab) (ht' : SlTabOK Try.prog val sla (stab 0 size)) : LawE sla size val :=
  leafOS (orc := known 24 yes []) h awakeOK mix ⟨trivial, trivial, hw, trivial, trivial, trivial, trivial⟩ (by kernel_rfl) hb hp ht hb' hp' ht' hg

structure DE (sla : Nat → Option Addr × Nat) : Prop where
  z : ∀ val, Holds val [.is (.a 11) 0] → TabOK Try.prog val sla tabZ → SlTabOK Try.prog val sla (stab 0 (a 2)) → LawE sla (a 2) val
  nw : ∀ val, Holds val [.is (.a 11) 0] → TabOK Try.prog val sla tabN → SlTabOK Try.prog val sla (stab 0 (a 2)) → LawE sla (a 2) val
  s1 : ∀ val, Holds val (.is (.a 11) 0 :: eqs 1) → TabOK Try.prog val sla (tabS 1) → SlTabOK Try.prog val sla (stab 0 (ci 1)) → LawE sla (ci 1) val
  s2 : ∀ val, Holds val (.is (.a 11) 0 :: eqs 2) → TabOK Try.prog val sla (tabS 2) → SlTabOK Try.prog val sla (stab 0 (ci 2)) → LawE sla (ci 2) val
  s4 : ∀ val, Holds val (.is (.a 11) 0 :: eqs 4) → TabOK Try.prog val sla (tabS 4) → SlTabOK Try.prog val sla (stab 0 (ci 4)) → LawE sla (ci 4) val
  s8 : ∀ val, Holds val (.is (.a 11) 0 :: eqs 8) → TabOK Try.prog val sla (tabS 8) → SlTabOK Try.prog val sla (stab 0 (ci 8)) → LawE sla (ci 8) val

theorem dE (sla : Nat → Option Addr × Nat) : DE sla := ⟨fun val h => leafE h trivial (by kernel_rfl) (by kernel_rfl) (by kernel_rfl) (by kernel_rfl) (by kernel_rfl), fun val h => leafE h trivial (by kernel_rfl) (by kernel_rfl) (by kernel_rfl) (by kernel_rfl) (by kernel_rfl), fun val h => leafE h trivial (by kernel_rfl) (by kernel_rfl) (by kernel_rfl) (by kernel_rfl) (by kernel_rfl), fun val h => leafE h trivial (by kernel_rfl) (by kernel_rfl) (by kernel_rfl) (by kernel_rfl) (by kernel_rfl), fun val h => leafE h trivial (by kernel_rfl) (by kernel_rfl) (by kernel_rfl) (by kernel_rfl) (by kernel_rfl), fun val h => leafE h trivial (by kernel_rfl) (by kernel_rfl) (by kernel_rfl) (by kernel_rfl) (by kernel_rfl)⟩

/-- Of too many. -/
theorem longE {sla : Nat → Option Addr × Nat} {val : Nat → Int} (h : Holds val [.ge (.a 11) 101]) : LawE sla (a 2) val :=
  leafO (orc := noOrc) (fuel := 1000) h noOrc_sound mix ⟨trivial, trivial, trivial, trivial, trivial, trivial, trivial⟩ (by kernel_rfl) (by kernel_rfl)

end Go.Proofs.Ytclgmeoofmidfaa.TellsL
