/-
  Tables of known calls, out of what is known.
-/
import Derived.Test.YtlggmhchgicjkaaNamH
namespace Go.Proofs.Ytlggmhchgicjkaa.Tab
open Go.Sim
set_option maxRecDepth 100000

section
variable {val : Nat → Int} {sla : Nat → Option Addr × Nat}

theorem tNil : TabOK Try.prog val sla [] := fun x hx => by cases hx

theorem tCons {f : FuncId} {args : List AV} {v : AV} {l : List (FuncId × List AV × AV)} (h : Ret Try.prog f (@concs (nameS val sla) E0 args) (@conc (nameS val sla) E0 v)) (hl : TabOK Try.prog val sla l) : TabOK Try.prog val sla ((f, args, v) :: l) := by
  intro y hy
  rcases List.mem_cons.1 hy with rfl | hy
  · exact h
  · exact hl y hy

theorem oNil {outs : List (Nat × List AV)} : TabOKO Try.prog val sla outs [] := fun x hx => by cases hx

theorem oCons {outs : List (Nat × List AV)} {f : FuncId} {args : List AV} {v : AV} {u : Value} {l : List (FuncId × List AV × AV)} (h : RetO Try.prog f args outs sla val u) (hu : u = @conc (nameS val sla) E0 v) (hl : TabOKO Try.prog val sla outs l) : TabOKO Try.prog val sla outs ((f, args, v) :: l) := by
  subst hu
  intro y hy
  rcases List.mem_cons.1 hy with rfl | hy
  · exact h
  · exact hl y hy

theorem mNil : MTabOK Try.prog val sla [] := fun x hx => by cases hx

theorem mCons {x : ME} {l : List ME} (h : ∀ w vs, @PtsOf (nameS val sla) w x.ps vs → @SummV (nameS val sla) Try.prog x.f vs x.v0 x.bs w) (hl : MTabOK Try.prog val sla l) : MTabOK Try.prog val sla (x :: l) := by
  intro y hy
  rcases List.mem_cons.1 hy with rfl | hy
  · exact h
  · exact hl y hy

theorem gNil : TabGK Try.prog val sla [] := fun x hx => by cases hx

theorem gCons {x : SB × FuncId × List AV × AV} {l : List (SB × FuncId × List AV × AV)} (h : x.1.eval val = true → Ret Try.prog x.2.1 (@concs (nameS val sla) E0 x.2.2.1) (@conc (nameS val sla) E0 x.2.2.2)) (hl : TabGK Try.prog val sla l) : TabGK Try.prog val sla (x :: l) := by
  intro y hy
  rcases List.mem_cons.1 hy with rfl | hy
  · exact h
  · exact hl y hy

theorem kNil {D : List PD} : ∀ e ∈ ([] : List (SB × SX × List AV × AV)), PkQ Try.prog D val sla e := fun x hx => by cases hx

theorem kCons {D : List PD} {x : SB × SX × List AV × AV} {l : List (SB × SX × List AV × AV)} (h : PkQ Try.prog D val sla x) (hl : ∀ e ∈ l, PkQ Try.prog D val sla e) : ∀ e ∈ x :: l, PkQ Try.prog D val sla e := by
  intro y hy
  rcases List.mem_cons.1 hy with rfl | hy
  · exact h
  · exact hl y hy

theorem xNil {outs : List (Nat × List AV)} : ∀ e ∈ ([] : List XE), XeQ Try.prog outs val sla e := fun x hx => by cases hx

theorem xCons {outs : List (Nat × List AV)} {x : XE} {l : List XE} (h : XeQ Try.prog outs val sla x) (hl : ∀ e ∈ l, XeQ Try.prog outs val sla e) : ∀ e ∈ x :: l, XeQ Try.prog outs val sla e := by
  intro y hy
  rcases List.mem_cons.1 hy with rfl | hy
  · exact h
  · exact hl y hy

/-- Of no tables. -/
theorem tb0 : TbOK Try.prog val sla ⟨[], [], [], [], [], [], [], []⟩ := ⟨tNil, gNil, oNil, mNil, kNil, xNil⟩

theorem tbT {l : List (FuncId × List AV × AV)} (h : TabOK Try.prog val sla l) : TbOK Try.prog val sla ⟨l, [], [], [], [], [], [], []⟩ := ⟨h, gNil, oNil, mNil, kNil, xNil⟩

theorem ret_out {f : FuncId} {args : List AV} {v : Value} (h : RetO Try.prog f args [] sla val v) : Ret Try.prog f (@concs (nameS val sla) E0 args) v :=
  fun w => h E0 w fun k o hk => by simp at hk

end

theorem agR {dn : Nat → Bool} {val : Nat → Int} : Ag dn val val := fun _ _ => rfl

theorem agT {dn : Nat → Bool} {u v w : Nat → Int} (h : Ag dn u v) (k : Ag dn v w) : Ag dn u w := fun i hi => (k i hi).trans (h i hi)

theorem agS {dn dn' : Nat → Bool} {u v : Nat → Int} (h : Ag dn u v) (hs : ∀ k, dn' k = true → dn k = true) : Ag dn' u v := fun i hi => h i (hs i hi)

abbrev sl0 : Nat → Option Addr × Nat := fun _ => (none, 0)

theorem b01 (b : Bool) : ((cond b (1 : Int) 0) == 1) = b := by cases b <;> rfl

end Go.Proofs.Ytlggmhchgicjkaa.Tab
