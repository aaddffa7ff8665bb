/-
  The chapter's examples are answered as it says.
-/
import Derived.Test.YtlggmhchgicjkaaTbW
namespace Go.Proofs.Ytlggmhchgicjkaa.Tab
open Go.Sim
set_option maxRecDepth 100000

noncomputable def T_kno : Tb := ⟨[], [], [], [], [], [], [], []⟩

theorem formKnown : Ret Try.prog 4 [] (.bool true) := by
  have h : Holds (fun _ => 0) [] := holds_nil
  have hg : ∀ (v : Nat → Int) (hG : Holds v ([] ++ [])) (sla : Nat → Option Addr × Nat), @givesO (symsOf v _ hG sla) Try.prog (orElse (@sc (symsOf v _ hG sla)) (@orcT (symsOf v _ hG sla) T_kno)) 1000 [] [.c 1] [(4, [], [.b 0])] = true := fun _ _ _ => by kernel_rfl
  obtain ⟨Y, _, h2, h3⟩ := leafCl (dn := dnA) (outs := []) (capF := []) (l := [(4, [], [.b 0])]) (m := 1) (T := T_kno) @sc @scO (fun Y => .eq (Y.getD 0 (.c 0)) (.c 1)) mixK (by kernel_rfl) (wf1 rfl (by simp [wfVs])) (by kernel_rfl) h [.c 1] (R := fun _ Y => Y.getD 0 0 = 1) (fun _ => rfl) (by kernel_rfl) hg
  have k : Ret Try.prog 4 (@concs (nameS (fun _ => 0) sl0) E0 []) (shV [.b 0] Y) := ret_out (h3 (fun _ => 0) sl0 agR holds_nil tb0 (4, [], [.b 0]) (List.mem_singleton_self _))
  have e : shV [.b 0] Y = .bool true := by
    show Value.bool (Y.getD 0 0 == 1) = _
    rw [h2]
    rfl
  rw [e] at k
  exact k

end Go.Proofs.Ytlggmhchgicjkaa.Tab
