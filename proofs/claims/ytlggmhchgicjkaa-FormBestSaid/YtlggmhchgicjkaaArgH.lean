/-
  Operands: claims.
-/
import Derived.Test.YtlggmhchgicjkaaTbW
namespace Go.Proofs.Ytlggmhchgicjkaa.Tab
open Go.Sim
set_option maxRecDepth 100000

/-- The first ones. -/
noncomputable def takeL' {α : Type} : Nat → List α → List α := fun n => Nat.rec (motive := fun _ => List α → List α) (fun _ => []) (fun _ ih l => match l with | [] => [] | x :: r => x :: ih r) n

abbrev nmA : AV := .agg [a 0, a 1, a 2, a 3, a 4, a 5, a 6, a 7, a 8, a 9, a 10]

abbrev argV (val : Nat → Int) : Value := .agg #[.int .i64 (val 0), .int .i64 (val 1), .int .i64 (val 2), .int .i64 (val 3), .int .i64 (val 4), .int .i64 (val 5), .int .i64 (val 6), .int .i64 (val 7), .int .i64 (val 8), .int .i64 (val 9), .int .i64 (val 10)]

noncomputable def P_arg (Y : List SX) : SB := (.and (.eq (Y.getD 11 (.c 0)) (Y.getD 12 (.c 0))) (.and (.or (.not (.eq (.a 0) (.c 3))) (.and (.eq (Y.getD 12 (.c 0)) (.c 0)) (.eq (Y.getD 13 (.c 0)) (.c 0)))) (.or (.not (.eq (Y.getD 12 (.c 0)) (.c 0))) (.and (.eq (Y.getD 0 (.c 0)) (.a 0)) (.and (.eq (Y.getD 14 (.c 0)) (.c 0)) (.and (.eq (Y.getD 15 (.c 0)) (Y.getD 13 (.c 0))) (.and (.or (.not (.eq (.a 0) (.c 1))) (.and (.eq (Y.getD 1 (.c 0)) (.a 1)) (.eq (Y.getD 2 (.c 0)) (.a 2)))) (.and (.or (.not (.eq (.a 0) (.c 2))) (.eq (Y.getD 9 (.c 0)) (.a 9))) (.and (.or (.not (.eq (.a 0) (.c 3))) (.eq (Y.getD 10 (.c 0)) (.a 10))) (.or (.not (.eq (.a 0) (.c 4))) (.eq (Y.getD 10 (.c 0)) (.a 10))))))))))))

theorem p_arg {val : Nat → Int} {Y : List SX} (h : (P_arg Y).eval val = true) : RofP P_arg val (Y.map (SX.eval val)) := by
  unfold RofP
  simpa only [P_arg, SB.eval, SX.eval, getD_c, getD_map_eval] using h

noncomputable abbrev canA (Y : List SX) : AV := .agg ((takeL' 11 Y).map (AV.sx .i64))

noncomputable def L_arg (Y : List SX) : List (FuncId × List AV × List Sh) := [(10, [nmA], [.g 0 11, .i 11]), (20, [nmA], [.i 12]), (22, [nmA], [.i 13]), (20, [canA Y], [.i 14]), (22, [canA Y], [.i 15])]

noncomputable abbrev canV (Y : List Int) : Value := .agg ((takeL' 11 Y).map (Value.int .i64)).toArray

/-- What operand.Canon, Check, Size give of an operand; what Check and Size give of the canon. -/
abbrev ArgQ (val : Nat → Int) : Prop := ∃ Y : List Int, Y.length = 16 ∧ RofP P_arg val Y ∧ Ret Try.prog 10 [argV val] (shV [.g 0 11, .i 11] Y) ∧ Ret Try.prog 20 [argV val] (shV [.i 12] Y) ∧ Ret Try.prog 22 [argV val] (shV [.i 13] Y) ∧
  Ret Try.prog 20 [canV Y] (shV [.i 14] Y) ∧ Ret Try.prog 22 [canV Y] (shV [.i 15] Y)

theorem canA_conc (val : Nat → Int) (Y : List SX) : @concs (nameS val sl0) E0 [canA Y] = [canV (Y.map (SX.eval val))] := by
  simp only [concs, conc]
  have : @concs (nameS val sl0) E0 ((takeL' 11 Y).map (AV.sx .i64)) = (takeL' 11 (Y.map (SX.eval val))).map (Value.int .i64) := by
    rw [@concs_eq (nameS val sl0)]
    generalize 11 = n
    induction n generalizing Y with
    | zero => rfl
    | succ n ih => cases Y with
      | nil => rfl
      | cons u r =>
        show @conc (nameS val sl0) E0 (AV.sx .i64 u) :: ((takeL' n r).map (AV.sx .i64)).map (@conc (nameS val sl0) E0) = _
        rw [ih r]
        simp only [conc]
        rfl
  rw [this]

theorem lc_arg {val : Nat → Int} {F : List Fact} (h : Holds val F) (Y : List SX) (hc : bAnd (Nat.beq Y.length 16) (isTrue (decF F (P_arg Y))) = true)
    (hg : @givesO (symsOf val F h sl0) Try.prog (@sc (symsOf val F h sl0)) 1000 [] Y (L_arg Y) = true) : ArgQ val := by
  have hw : ∀ x ∈ L_arg Y, wfVs (· < ([] : List (Nat × List AV)).length) x.2.1 := by
    have hcan : wfVs (· < ([] : List (Nat × List AV)).length) [canA Y] := by
      refine ⟨?_, trivial⟩
      show wfVs _ _
      rw [wfVs_iff]
      intro x hx
      obtain ⟨u, _, rfl⟩ := List.mem_map.1 hx
      trivial
    have hnm : wfVs (· < ([] : List (Nat × List AV)).length) [nmA] := by simp [wfVs, wfV]
    intro x hx
    simp only [L_arg, List.mem_cons, List.not_mem_nil, or_false] at hx
    rcases hx with rfl | rfl | rfl | rfl | rfl <;> first | exact hnm | exact hcan
  have k := retO_all h (sla := sl0) (@scO (symsOf val F h sl0)) mixK rfl (L_arg Y) hw hg
  have g := fun x hx => ret_out (k x hx)
  have e : @concs (nameS val sl0) E0 [nmA] = [argV val] := by simp only [concs, conc]; rfl
  have k1 := g (10, [nmA], [.g 0 11, .i 11]) (by simp [L_arg])
  have k2 := g (20, [nmA], [.i 12]) (by simp [L_arg])
  have k3 := g (22, [nmA], [.i 13]) (by simp [L_arg])
  have k4 := g (20, [canA Y], [.i 14]) (by simp [L_arg])
  have k5 := g (22, [canA Y], [.i 15]) (by simp [L_arg])
  rw [e] at k1 k2 k3
  rw [canA_conc] at k4 k5
  exact ⟨Y.map (SX.eval val), by rw [List.length_map, Nat.eq_of_beq_eq_true (bAnd_true hc).1], p_arg (decF_sound h _ _ (isTrue_iff (bAnd_true hc).2)), k1, k2, k3, k4, k5⟩

end Go.Proofs.Ytlggmhchgicjkaa.Tab
