/-
  Instructions: claims.
-/
import Derived.Test.YtlggmhchgicjkaaNamH
namespace Go.Proofs.Ytlggmhchgicjkaa.Tab
open Go.Sim
set_option maxRecDepth 100000

/-- What Bits, what Check may hang on. -/
def dnB : Nat → Bool := fun k => (Nat.ble 2 k && Nat.ble k 4) || Nat.beq k 38 || (Nat.ble 40 k && Nat.ble k 399 && Nat.beq ((k - 40) % 40) 12)

def dnK : Nat → Bool := fun k => (Nat.ble 2 k && Nat.ble k 6) || Nat.beq k 38 || (Nat.ble 40 k && Nat.ble k 399 && (Nat.beq ((k - 40) % 40) 0 || Nat.beq ((k - 40) % 40) 11 || Nat.beq ((k - 40) % 40) 31))

noncomputable def L_name : List (FuncId × List AV × List Sh) := [(18, [a 0], [.b 0]), (21, [a 0], [.i 1, .b 2])]

noncomputable def P_name (Y : List SX) : SB := .le (.c 0) (Y.getD 1 (.c 0))

noncomputable def T_no : Tb := ⟨[], [], [], [], [], [], [], []⟩

abbrev Name (val : Nat → Int) : Prop := Cl Try.prog dnA [] [] L_name 3 (RofP P_name) T_no val

theorem w_name : ∀ x ∈ L_name, wfVs (· < ([] : List (Nat × List AV)).length) x.2.1 := by
  intro x hx
  simp only [L_name, List.mem_cons, List.not_mem_nil, or_false] at hx
  rcases hx with rfl | rfl <;> simp [wfVs, wfV]

theorem s_name : St [] L_name T_no P_name := ⟨by kernel_rfl, w_name, by kernel_rfl, fun h => by
  unfold RofP
  simp only [P_name, SB.eval, SX.eval, getD_c, getD_map_eval, decide_eq_true_eq] at h ⊢
  exact decide_eq_true h⟩

noncomputable def T_immtrue : Tb := ⟨[], [], [], [], [], [], [], []⟩

noncomputable def L_immtrue : List (FuncId × List AV × List Sh) := [(11, [a 0, a 1, .v (.bool true)], [.i 1, .i 0])]

noncomputable def P_immtrue (Y : List SX) : SB := (.and (.or (.not (.eq (.a 1) (.c 8))) (.and (.or (.not (.eq (Y.getD 0 (.c 0)) (.c 0))) (.or (.eq (.a 0) (.wrap .i64 (.shr (.wrap .u64 (.shl (.wrap .u64 (.a 0)) 56)) 56))) (.eq (.a 0) (.shr (.wrap .i64 (.wrap .u64 (.shl (.wrap .u64 (.a 0)) 56))) 56)))) (.and (.or (.not (.or (.eq (.a 0) (.wrap .i64 (.shr (.wrap .u64 (.shl (.wrap .u64 (.a 0)) 56)) 56))) (.eq (.a 0) (.shr (.wrap .i64 (.wrap .u64 (.shl (.wrap .u64 (.a 0)) 56))) 56)))) (.eq (Y.getD 0 (.c 0)) (.c 0))) (.or (.not (.eq (Y.getD 0 (.c 0)) (.c 0))) (.eq (Y.getD 1 (.c 0)) (.shr (.wrap .i64 (.wrap .u64 (.shl (.wrap .u64 (.a 0)) 56))) 56)))))) (.and (.or (.not (.eq (.a 1) (.c 16))) (.and (.or (.not (.eq (Y.getD 0 (.c 0)) (.c 0))) (.or (.eq (.a 0) (.wrap .i64 (.shr (.wrap .u64 (.shl (.wrap .u64 (.a 0)) 48)) 48))) (.eq (.a 0) (.shr (.wrap .i64 (.wrap .u64 (.shl (.wrap .u64 (.a 0)) 48))) 48)))) (.and (.or (.not (.or (.eq (.a 0) (.wrap .i64 (.shr (.wrap .u64 (.shl (.wrap .u64 (.a 0)) 48)) 48))) (.eq (.a 0) (.shr (.wrap .i64 (.wrap .u64 (.shl (.wrap .u64 (.a 0)) 48))) 48)))) (.eq (Y.getD 0 (.c 0)) (.c 0))) (.or (.not (.eq (Y.getD 0 (.c 0)) (.c 0))) (.eq (Y.getD 1 (.c 0)) (.shr (.wrap .i64 (.wrap .u64 (.shl (.wrap .u64 (.a 0)) 48))) 48)))))) (.and (.or (.not (.eq (.a 1) (.c 32))) (.and (.or (.not (.eq (Y.getD 0 (.c 0)) (.c 0))) (.or (.eq (.a 0) (.wrap .i64 (.shr (.wrap .u64 (.shl (.wrap .u64 (.a 0)) 32)) 32))) (.eq (.a 0) (.shr (.wrap .i64 (.wrap .u64 (.shl (.wrap .u64 (.a 0)) 32))) 32)))) (.and (.or (.not (.or (.eq (.a 0) (.wrap .i64 (.shr (.wrap .u64 (.shl (.wrap .u64 (.a 0)) 32)) 32))) (.eq (.a 0) (.shr (.wrap .i64 (.wrap .u64 (.shl (.wrap .u64 (.a 0)) 32))) 32)))) (.eq (Y.getD 0 (.c 0)) (.c 0))) (.or (.not (.eq (Y.getD 0 (.c 0)) (.c 0))) (.eq (Y.getD 1 (.c 0)) (.shr (.wrap .i64 (.wrap .u64 (.shl (.wrap .u64 (.a 0)) 32))) 32)))))) (.and (.or (.not (.eq (.a 1) (.c 64))) (.and (.or (.not (.eq (Y.getD 0 (.c 0)) (.c 0))) (.or (.eq (.a 0) (.wrap .i64 (.shr (.wrap .u64 (.shl (.wrap .u64 (.a 0)) 0)) 0))) (.eq (.a 0) (.shr (.wrap .i64 (.wrap .u64 (.shl (.wrap .u64 (.a 0)) 0))) 0)))) (.and (.or (.not (.or (.eq (.a 0) (.wrap .i64 (.shr (.wrap .u64 (.shl (.wrap .u64 (.a 0)) 0)) 0))) (.eq (.a 0) (.shr (.wrap .i64 (.wrap .u64 (.shl (.wrap .u64 (.a 0)) 0))) 0)))) (.eq (Y.getD 0 (.c 0)) (.c 0))) (.or (.not (.eq (Y.getD 0 (.c 0)) (.c 0))) (.eq (Y.getD 1 (.c 0)) (.shr (.wrap .i64 (.wrap .u64 (.shl (.wrap .u64 (.a 0)) 0))) 0)))))) (.or (.eq (.a 1) (.c 8)) (.or (.eq (.a 1) (.c 16)) (.or (.eq (.a 1) (.c 32)) (.or (.eq (.a 1) (.c 64)) (.not (.eq (Y.getD 0 (.c 0)) (.c 0)))))))))))

theorem s_immtrue : St [] L_immtrue T_immtrue P_immtrue := ⟨by kernel_rfl, (wf1 (l := L_immtrue) rfl (by simp [wfVs, wfV])), by kernel_rfl, fun h => by unfold RofP; simpa only [P_immtrue, SB.eval, SX.eval, getD_c, getD_map_eval] using h⟩

abbrev Immtrue (val : Nat → Int) : Prop := Cl Try.prog dnA [] [] L_immtrue 2 (RofP P_immtrue) T_immtrue val

noncomputable def T_immfalse : Tb := ⟨[], [], [], [], [], [], [], []⟩

noncomputable def L_immfalse : List (FuncId × List AV × List Sh) := [(11, [a 0, a 1, .v (.bool false)], [.i 1, .i 0])]

noncomputable def P_immfalse (Y : List SX) : SB := (.and (.or (.not (.eq (.a 1) (.c 8))) (.and (.or (.not (.eq (Y.getD 0 (.c 0)) (.c 0))) (.or (.eq (.a 0) (.wrap .i64 (.shr (.wrap .u64 (.shl (.wrap .u64 (.a 0)) 56)) 56))) (.eq (.a 0) (.shr (.wrap .i64 (.wrap .u64 (.shl (.wrap .u64 (.a 0)) 56))) 56)))) (.and (.or (.not (.or (.eq (.a 0) (.wrap .i64 (.shr (.wrap .u64 (.shl (.wrap .u64 (.a 0)) 56)) 56))) (.eq (.a 0) (.shr (.wrap .i64 (.wrap .u64 (.shl (.wrap .u64 (.a 0)) 56))) 56)))) (.eq (Y.getD 0 (.c 0)) (.c 0))) (.or (.not (.eq (Y.getD 0 (.c 0)) (.c 0))) (.eq (Y.getD 1 (.c 0)) (.wrap .i64 (.shr (.wrap .u64 (.shl (.wrap .u64 (.a 0)) 56)) 56))))))) (.and (.or (.not (.eq (.a 1) (.c 16))) (.and (.or (.not (.eq (Y.getD 0 (.c 0)) (.c 0))) (.or (.eq (.a 0) (.wrap .i64 (.shr (.wrap .u64 (.shl (.wrap .u64 (.a 0)) 48)) 48))) (.eq (.a 0) (.shr (.wrap .i64 (.wrap .u64 (.shl (.wrap .u64 (.a 0)) 48))) 48)))) (.and (.or (.not (.or (.eq (.a 0) (.wrap .i64 (.shr (.wrap .u64 (.shl (.wrap .u64 (.a 0)) 48)) 48))) (.eq (.a 0) (.shr (.wrap .i64 (.wrap .u64 (.shl (.wrap .u64 (.a 0)) 48))) 48)))) (.eq (Y.getD 0 (.c 0)) (.c 0))) (.or (.not (.eq (Y.getD 0 (.c 0)) (.c 0))) (.eq (Y.getD 1 (.c 0)) (.wrap .i64 (.shr (.wrap .u64 (.shl (.wrap .u64 (.a 0)) 48)) 48))))))) (.and (.or (.not (.eq (.a 1) (.c 32))) (.and (.or (.not (.eq (Y.getD 0 (.c 0)) (.c 0))) (.or (.eq (.a 0) (.wrap .i64 (.shr (.wrap .u64 (.shl (.wrap .u64 (.a 0)) 32)) 32))) (.eq (.a 0) (.shr (.wrap .i64 (.wrap .u64 (.shl (.wrap .u64 (.a 0)) 32))) 32)))) (.and (.or (.not (.or (.eq (.a 0) (.wrap .i64 (.shr (.wrap .u64 (.shl (.wrap .u64 (.a 0)) 32)) 32))) (.eq (.a 0) (.shr (.wrap .i64 (.wrap .u64 (.shl (.wrap .u64 (.a 0)) 32))) 32)))) (.eq (Y.getD 0 (.c 0)) (.c 0))) (.or (.not (.eq (Y.getD 0 (.c 0)) (.c 0))) (.eq (Y.getD 1 (.c 0)) (.wrap .i64 (.shr (.wrap .u64 (.shl (.wrap .u64 (.a 0)) 32)) 32))))))) (.and (.or (.not (.eq (.a 1) (.c 64))) (.and (.or (.not (.eq (Y.getD 0 (.c 0)) (.c 0))) (.or (.eq (.a 0) (.wrap .i64 (.shr (.wrap .u64 (.shl (.wrap .u64 (.a 0)) 0)) 0))) (.eq (.a 0) (.shr (.wrap .i64 (.wrap .u64 (.shl (.wrap .u64 (.a 0)) 0))) 0)))) (.and (.or (.not (.or (.eq (.a 0) (.wrap .i64 (.shr (.wrap .u64 (.shl (.wrap .u64 (.a 0)) 0)) 0))) (.eq (.a 0) (.shr (.wrap .i64 (.wrap .u64 (.shl (.wrap .u64 (.a 0)) 0))) 0)))) (.eq (Y.getD 0 (.c 0)) (.c 0))) (.or (.not (.eq (Y.getD 0 (.c 0)) (.c 0))) (.eq (Y.getD 1 (.c 0)) (.wrap .i64 (.shr (.wrap .u64 (.shl (.wrap .u64 (.a 0)) 0)) 0))))))) (.or (.eq (.a 1) (.c 8)) (.or (.eq (.a 1) (.c 16)) (.or (.eq (.a 1) (.c 32)) (.or (.eq (.a 1) (.c 64)) (.not (.eq (Y.getD 0 (.c 0)) (.c 0)))))))))))

theorem s_immfalse : St [] L_immfalse T_immfalse P_immfalse := ⟨by kernel_rfl, (wf1 (l := L_immfalse) rfl (by simp [wfVs, wfV])), by kernel_rfl, fun h => by unfold RofP; simpa only [P_immfalse, SB.eval, SX.eval, getD_c, getD_map_eval] using h⟩

abbrev Immfalse (val : Nat → Int) : Prop := Cl Try.prog dnA [] [] L_immfalse 2 (RofP P_immfalse) T_immfalse val

noncomputable def T_bits0 : Tb := ⟨[(18, [a 0], bo 2), (21, [a 0], .tup [a 3, bo 4])], [], [], [], [], [], [], []⟩

noncomputable def L_bits0 : List (FuncId × List AV × List Sh) := [(9, [instE], [.i 0, .b 1])]

theorem s_bits0 : St [] L_bits0 T_bits0 (fun _ => .tt) := ⟨by kernel_rfl, (wf1 (l := L_bits0) rfl (by simp [wfVs, wfV])), by kernel_rfl, phi_tt⟩

abbrev Bits0 (val : Nat → Int) : Prop := Cl Try.prog dnB [] [] L_bits0 2 (RofP (fun _ => .tt)) T_bits0 val

noncomputable def T_chk0 : Tb := ⟨[(18, [a 0], bo 2)], [], [], [], [⟨9, [patE], .tup [a 5, bo 6], []⟩], [], [], []⟩

noncomputable def L_chk0 : List (FuncId × List AV × List Sh) := [(8, [instE], [.i 0])]

noncomputable def P_chk0 (Y : List SX) : SB := (.or (.not (.eq (Y.getD 0 (.c 0)) (.c 0))) .tt)

theorem s_chk0 : St [] L_chk0 T_chk0 P_chk0 := ⟨by kernel_rfl, (wf1 (l := L_chk0) rfl (by simp [wfVs, wfV])), by kernel_rfl, fun h => by unfold RofP; simpa only [P_chk0, SB.eval, SX.eval, getD_c, getD_map_eval] using h⟩

abbrev Chk0 (val : Nat → Int) : Prop := Cl Try.prog dnK [] [] L_chk0 1 (RofP P_chk0) T_chk0 val

noncomputable def T_bits1 : Tb := ⟨[(18, [a 0], bo 2), (21, [a 0], .tup [a 3, bo 4]), (22, [.agg [a 40, a 41, a 42, a 43, a 44, a 45, a 46, a 47, a 48, a 49, a 50]], a 52)], [], [], [], [], [], [], []⟩

noncomputable def L_bits1 : List (FuncId × List AV × List Sh) := [(9, [instB 0 1], [.i 0, .b 1])]

theorem s_bits1 : St (outsI 1) L_bits1 T_bits1 (fun _ => .tt) := ⟨by kernel_rfl, (wf1 (l := L_bits1) rfl (by simp [wfVs, wfV])), by kernel_rfl, phi_tt⟩

abbrev Bits1 (val : Nat → Int) : Prop := Cl Try.prog dnB (outsI 1) [.ge (.a 1) 1] L_bits1 2 (RofP (fun _ => .tt)) T_bits1 val

noncomputable def T_chk1 : Tb := ⟨[(18, [a 0], bo 2), (20, [.agg [a 40, a 41, a 42, a 43, a 44, a 45, a 46, a 47, a 48, a 49, a 50]], a 51)], [(.eq (.a 40) (.c 3), 11, [a 50, a 5, bo 6], .tup [a 72, a 71])], [], [], [⟨9, [pat 1], .tup [a 5, bo 6], []⟩], [], [], []⟩

noncomputable def L_chk1 : List (FuncId × List AV × List Sh) := [(8, [instB 0 1], [.i 0])]

noncomputable def P_chk1 (Y : List SX) : SB := (.or (.not (.eq (Y.getD 0 (.c 0)) (.c 0))) (.and (.eq (.a 51) (.c 0)) (.or (.not (.eq (.a 40) (.c 3))) (.eq (.a 71) (.c 0)))))

theorem s_chk1 : St (outsI 1) L_chk1 T_chk1 P_chk1 := ⟨by kernel_rfl, (wf1 (l := L_chk1) rfl (by simp [wfVs, wfV])), by kernel_rfl, fun h => by unfold RofP; simpa only [P_chk1, SB.eval, SX.eval, getD_c, getD_map_eval] using h⟩

abbrev Chk1 (val : Nat → Int) : Prop := Cl Try.prog dnK (outsI 1) [.ge (.a 1) 1] L_chk1 1 (RofP P_chk1) T_chk1 val

noncomputable def T_bits2 : Tb := ⟨[(18, [a 0], bo 2), (21, [a 0], .tup [a 3, bo 4]), (22, [.agg [a 40, a 41, a 42, a 43, a 44, a 45, a 46, a 47, a 48, a 49, a 50]], a 52)], [], [], [], [], [], [], []⟩

noncomputable def L_bits2 : List (FuncId × List AV × List Sh) := [(9, [instB 0 2], [.i 0, .b 1])]

theorem s_bits2 : St (outsI 2) L_bits2 T_bits2 (fun _ => .tt) := ⟨by kernel_rfl, (wf1 (l := L_bits2) rfl (by simp [wfVs, wfV])), by kernel_rfl, phi_tt⟩

abbrev Bits2 (val : Nat → Int) : Prop := Cl Try.prog dnB (outsI 2) [.ge (.a 1) 2] L_bits2 2 (RofP (fun _ => .tt)) T_bits2 val

noncomputable def T_chk2 : Tb := ⟨[(18, [a 0], bo 2), (20, [.agg [a 40, a 41, a 42, a 43, a 44, a 45, a 46, a 47, a 48, a 49, a 50]], a 51), (20, [.agg [a 80, a 81, a 82, a 83, a 84, a 85, a 86, a 87, a 88, a 89, a 90]], a 91)], [(.eq (.a 40) (.c 3), 11, [a 50, a 5, bo 6], .tup [a 72, a 71]), (.eq (.a 80) (.c 3), 11, [a 90, a 5, bo 6], .tup [a 112, a 111])], [], [], [⟨9, [pat 2], .tup [a 5, bo 6], []⟩], [], [], []⟩

noncomputable def L_chk2 : List (FuncId × List AV × List Sh) := [(8, [instB 0 2], [.i 0])]

noncomputable def P_chk2 (Y : List SX) : SB := (.or (.not (.eq (Y.getD 0 (.c 0)) (.c 0))) (.and (.and (.eq (.a 51) (.c 0)) (.or (.not (.eq (.a 40) (.c 3))) (.eq (.a 71) (.c 0)))) (.and (.eq (.a 91) (.c 0)) (.or (.not (.eq (.a 80) (.c 3))) (.eq (.a 111) (.c 0))))))

theorem s_chk2 : St (outsI 2) L_chk2 T_chk2 P_chk2 := ⟨by kernel_rfl, (wf1 (l := L_chk2) rfl (by simp [wfVs, wfV])), by kernel_rfl, fun h => by unfold RofP; simpa only [P_chk2, SB.eval, SX.eval, getD_c, getD_map_eval] using h⟩

abbrev Chk2 (val : Nat → Int) : Prop := Cl Try.prog dnK (outsI 2) [.ge (.a 1) 2] L_chk2 1 (RofP P_chk2) T_chk2 val

noncomputable def T_bits3 : Tb := ⟨[(18, [a 0], bo 2), (21, [a 0], .tup [a 3, bo 4]), (22, [.agg [a 40, a 41, a 42, a 43, a 44, a 45, a 46, a 47, a 48, a 49, a 50]], a 52)], [], [], [], [], [], [], []⟩

noncomputable def L_bits3 : List (FuncId × List AV × List Sh) := [(9, [instB 0 3], [.i 0, .b 1])]

theorem s_bits3 : St (outsI 3) L_bits3 T_bits3 (fun _ => .tt) := ⟨by kernel_rfl, (wf1 (l := L_bits3) rfl (by simp [wfVs, wfV])), by kernel_rfl, phi_tt⟩

abbrev Bits3 (val : Nat → Int) : Prop := Cl Try.prog dnB (outsI 3) [.ge (.a 1) 3] L_bits3 2 (RofP (fun _ => .tt)) T_bits3 val

noncomputable def T_chk3 : Tb := ⟨[(18, [a 0], bo 2), (20, [.agg [a 40, a 41, a 42, a 43, a 44, a 45, a 46, a 47, a 48, a 49, a 50]], a 51), (20, [.agg [a 80, a 81, a 82, a 83, a 84, a 85, a 86, a 87, a 88, a 89, a 90]], a 91), (20, [.agg [a 120, a 121, a 122, a 123, a 124, a 125, a 126, a 127, a 128, a 129, a 130]], a 131)], [(.eq (.a 40) (.c 3), 11, [a 50, a 5, bo 6], .tup [a 72, a 71]), (.eq (.a 80) (.c 3), 11, [a 90, a 5, bo 6], .tup [a 112, a 111]), (.eq (.a 120) (.c 3), 11, [a 130, a 5, bo 6], .tup [a 152, a 151])], [], [], [⟨9, [pat 3], .tup [a 5, bo 6], []⟩], [], [], []⟩

noncomputable def L_chk3 : List (FuncId × List AV × List Sh) := [(8, [instB 0 3], [.i 0])]

noncomputable def P_chk3 (Y : List SX) : SB := (.or (.not (.eq (Y.getD 0 (.c 0)) (.c 0))) (.and (.and (.eq (.a 51) (.c 0)) (.or (.not (.eq (.a 40) (.c 3))) (.eq (.a 71) (.c 0)))) (.and (.and (.eq (.a 91) (.c 0)) (.or (.not (.eq (.a 80) (.c 3))) (.eq (.a 111) (.c 0)))) (.and (.eq (.a 131) (.c 0)) (.or (.not (.eq (.a 120) (.c 3))) (.eq (.a 151) (.c 0)))))))

theorem s_chk3 : St (outsI 3) L_chk3 T_chk3 P_chk3 := ⟨by kernel_rfl, (wf1 (l := L_chk3) rfl (by simp [wfVs, wfV])), by kernel_rfl, fun h => by unfold RofP; simpa only [P_chk3, SB.eval, SX.eval, getD_c, getD_map_eval] using h⟩

abbrev Chk3 (val : Nat → Int) : Prop := Cl Try.prog dnK (outsI 3) [.ge (.a 1) 3] L_chk3 1 (RofP P_chk3) T_chk3 val

noncomputable def T_bits4 : Tb := ⟨[(18, [a 0], bo 2), (21, [a 0], .tup [a 3, bo 4]), (22, [.agg [a 40, a 41, a 42, a 43, a 44, a 45, a 46, a 47, a 48, a 49, a 50]], a 52)], [], [], [], [], [], [], []⟩

noncomputable def L_bits4 : List (FuncId × List AV × List Sh) := [(9, [instB 0 4], [.i 0, .b 1])]

theorem s_bits4 : St (outsI 4) L_bits4 T_bits4 (fun _ => .tt) := ⟨by kernel_rfl, (wf1 (l := L_bits4) rfl (by simp [wfVs, wfV])), by kernel_rfl, phi_tt⟩

abbrev Bits4 (val : Nat → Int) : Prop := Cl Try.prog dnB (outsI 4) [.ge (.a 1) 4] L_bits4 2 (RofP (fun _ => .tt)) T_bits4 val

noncomputable def T_chk4 : Tb := ⟨[(18, [a 0], bo 2), (20, [.agg [a 40, a 41, a 42, a 43, a 44, a 45, a 46, a 47, a 48, a 49, a 50]], a 51), (20, [.agg [a 80, a 81, a 82, a 83, a 84, a 85, a 86, a 87, a 88, a 89, a 90]], a 91), (20, [.agg [a 120, a 121, a 122, a 123, a 124, a 125, a 126, a 127, a 128, a 129, a 130]], a 131), (20, [.agg [a 160, a 161, a 162, a 163, a 164, a 165, a 166, a 167, a 168, a 169, a 170]], a 171)], [(.eq (.a 40) (.c 3), 11, [a 50, a 5, bo 6], .tup [a 72, a 71]), (.eq (.a 80) (.c 3), 11, [a 90, a 5, bo 6], .tup [a 112, a 111]), (.eq (.a 120) (.c 3), 11, [a 130, a 5, bo 6], .tup [a 152, a 151]), (.eq (.a 160) (.c 3), 11, [a 170, a 5, bo 6], .tup [a 192, a 191])], [], [], [⟨9, [pat 4], .tup [a 5, bo 6], []⟩], [], [], []⟩

noncomputable def L_chk4 : List (FuncId × List AV × List Sh) := [(8, [instB 0 4], [.i 0])]

noncomputable def P_chk4 (Y : List SX) : SB := (.or (.not (.eq (Y.getD 0 (.c 0)) (.c 0))) (.and (.and (.eq (.a 51) (.c 0)) (.or (.not (.eq (.a 40) (.c 3))) (.eq (.a 71) (.c 0)))) (.and (.and (.eq (.a 91) (.c 0)) (.or (.not (.eq (.a 80) (.c 3))) (.eq (.a 111) (.c 0)))) (.and (.and (.eq (.a 131) (.c 0)) (.or (.not (.eq (.a 120) (.c 3))) (.eq (.a 151) (.c 0)))) (.and (.eq (.a 171) (.c 0)) (.or (.not (.eq (.a 160) (.c 3))) (.eq (.a 191) (.c 0))))))))

theorem s_chk4 : St (outsI 4) L_chk4 T_chk4 P_chk4 := ⟨by kernel_rfl, (wf1 (l := L_chk4) rfl (by simp [wfVs, wfV])), by kernel_rfl, fun h => by unfold RofP; simpa only [P_chk4, SB.eval, SX.eval, getD_c, getD_map_eval] using h⟩

abbrev Chk4 (val : Nat → Int) : Prop := Cl Try.prog dnK (outsI 4) [.ge (.a 1) 4] L_chk4 1 (RofP P_chk4) T_chk4 val

noncomputable def T_bits5 : Tb := ⟨[(18, [a 0], bo 2), (21, [a 0], .tup [a 3, bo 4]), (22, [.agg [a 40, a 41, a 42, a 43, a 44, a 45, a 46, a 47, a 48, a 49, a 50]], a 52)], [], [], [], [], [], [], []⟩

noncomputable def L_bits5 : List (FuncId × List AV × List Sh) := [(9, [instB 0 5], [.i 0, .b 1])]

theorem s_bits5 : St (outsI 5) L_bits5 T_bits5 (fun _ => .tt) := ⟨by kernel_rfl, (wf1 (l := L_bits5) rfl (by simp [wfVs, wfV])), by kernel_rfl, phi_tt⟩

abbrev Bits5 (val : Nat → Int) : Prop := Cl Try.prog dnB (outsI 5) [.ge (.a 1) 5] L_bits5 2 (RofP (fun _ => .tt)) T_bits5 val

noncomputable def T_chk5 : Tb := ⟨[(18, [a 0], bo 2)], [], [], [], [⟨9, [pat 5], .tup [a 5, bo 6], []⟩], [], [], []⟩

noncomputable def L_chk5 : List (FuncId × List AV × List Sh) := [(8, [instB 0 5], [.i 0])]

noncomputable def P_chk5 (Y : List SX) : SB := (.not (.eq (Y.getD 0 (.c 0)) (.c 0)))

theorem s_chk5 : St (outsI 5) L_chk5 T_chk5 P_chk5 := ⟨by kernel_rfl, (wf1 (l := L_chk5) rfl (by simp [wfVs, wfV])), by kernel_rfl, fun h => by unfold RofP; simpa only [P_chk5, SB.eval, SX.eval, getD_c, getD_map_eval] using h⟩

abbrev Chk5 (val : Nat → Int) : Prop := Cl Try.prog dnK (outsI 5) [.ge (.a 1) 5] L_chk5 1 (RofP P_chk5) T_chk5 val

noncomputable def T_bits6 : Tb := ⟨[(18, [a 0], bo 2), (21, [a 0], .tup [a 3, bo 4]), (22, [.agg [a 40, a 41, a 42, a 43, a 44, a 45, a 46, a 47, a 48, a 49, a 50]], a 52)], [], [], [], [], [], [], []⟩

noncomputable def L_bits6 : List (FuncId × List AV × List Sh) := [(9, [instB 0 6], [.i 0, .b 1])]

theorem s_bits6 : St (outsI 6) L_bits6 T_bits6 (fun _ => .tt) := ⟨by kernel_rfl, (wf1 (l := L_bits6) rfl (by simp [wfVs, wfV])), by kernel_rfl, phi_tt⟩

abbrev Bits6 (val : Nat → Int) : Prop := Cl Try.prog dnB (outsI 6) [.ge (.a 1) 6] L_bits6 2 (RofP (fun _ => .tt)) T_bits6 val

noncomputable def T_chk6 : Tb := ⟨[(18, [a 0], bo 2)], [], [], [], [⟨9, [pat 6], .tup [a 5, bo 6], []⟩], [], [], []⟩

noncomputable def L_chk6 : List (FuncId × List AV × List Sh) := [(8, [instB 0 6], [.i 0])]

noncomputable def P_chk6 (Y : List SX) : SB := (.not (.eq (Y.getD 0 (.c 0)) (.c 0)))

theorem s_chk6 : St (outsI 6) L_chk6 T_chk6 P_chk6 := ⟨by kernel_rfl, (wf1 (l := L_chk6) rfl (by simp [wfVs, wfV])), by kernel_rfl, fun h => by unfold RofP; simpa only [P_chk6, SB.eval, SX.eval, getD_c, getD_map_eval] using h⟩

abbrev Chk6 (val : Nat → Int) : Prop := Cl Try.prog dnK (outsI 6) [.ge (.a 1) 6] L_chk6 1 (RofP P_chk6) T_chk6 val

noncomputable def T_bits7 : Tb := ⟨[(18, [a 0], bo 2), (21, [a 0], .tup [a 3, bo 4]), (22, [.agg [a 40, a 41, a 42, a 43, a 44, a 45, a 46, a 47, a 48, a 49, a 50]], a 52)], [], [], [], [], [], [], []⟩

noncomputable def L_bits7 : List (FuncId × List AV × List Sh) := [(9, [instB 0 7], [.i 0, .b 1])]

theorem s_bits7 : St (outsI 7) L_bits7 T_bits7 (fun _ => .tt) := ⟨by kernel_rfl, (wf1 (l := L_bits7) rfl (by simp [wfVs, wfV])), by kernel_rfl, phi_tt⟩

abbrev Bits7 (val : Nat → Int) : Prop := Cl Try.prog dnB (outsI 7) [.ge (.a 1) 7] L_bits7 2 (RofP (fun _ => .tt)) T_bits7 val

noncomputable def T_chk7 : Tb := ⟨[(18, [a 0], bo 2)], [], [], [], [⟨9, [pat 7], .tup [a 5, bo 6], []⟩], [], [], []⟩

noncomputable def L_chk7 : List (FuncId × List AV × List Sh) := [(8, [instB 0 7], [.i 0])]

noncomputable def P_chk7 (Y : List SX) : SB := (.not (.eq (Y.getD 0 (.c 0)) (.c 0)))

theorem s_chk7 : St (outsI 7) L_chk7 T_chk7 P_chk7 := ⟨by kernel_rfl, (wf1 (l := L_chk7) rfl (by simp [wfVs, wfV])), by kernel_rfl, fun h => by unfold RofP; simpa only [P_chk7, SB.eval, SX.eval, getD_c, getD_map_eval] using h⟩

abbrev Chk7 (val : Nat → Int) : Prop := Cl Try.prog dnK (outsI 7) [.ge (.a 1) 7] L_chk7 1 (RofP P_chk7) T_chk7 val

noncomputable def T_bits8 : Tb := ⟨[(18, [a 0], bo 2), (21, [a 0], .tup [a 3, bo 4]), (22, [.agg [a 40, a 41, a 42, a 43, a 44, a 45, a 46, a 47, a 48, a 49, a 50]], a 52)], [], [], [], [], [], [], []⟩

noncomputable def L_bits8 : List (FuncId × List AV × List Sh) := [(9, [instB 0 8], [.i 0, .b 1])]

theorem s_bits8 : St (outsI 8) L_bits8 T_bits8 (fun _ => .tt) := ⟨by kernel_rfl, (wf1 (l := L_bits8) rfl (by simp [wfVs, wfV])), by kernel_rfl, phi_tt⟩

abbrev Bits8 (val : Nat → Int) : Prop := Cl Try.prog dnB (outsI 8) [.ge (.a 1) 8] L_bits8 2 (RofP (fun _ => .tt)) T_bits8 val

noncomputable def T_chk8 : Tb := ⟨[(18, [a 0], bo 2)], [], [], [], [⟨9, [pat 8], .tup [a 5, bo 6], []⟩], [], [], []⟩

noncomputable def L_chk8 : List (FuncId × List AV × List Sh) := [(8, [instB 0 8], [.i 0])]

noncomputable def P_chk8 (Y : List SX) : SB := (.not (.eq (Y.getD 0 (.c 0)) (.c 0)))

theorem s_chk8 : St (outsI 8) L_chk8 T_chk8 P_chk8 := ⟨by kernel_rfl, (wf1 (l := L_chk8) rfl (by simp [wfVs, wfV])), by kernel_rfl, fun h => by unfold RofP; simpa only [P_chk8, SB.eval, SX.eval, getD_c, getD_map_eval] using h⟩

abbrev Chk8 (val : Nat → Int) : Prop := Cl Try.prog dnK (outsI 8) [.ge (.a 1) 8] L_chk8 1 (RofP P_chk8) T_chk8 val

noncomputable def T_bits9 : Tb := ⟨[(18, [a 0], bo 2), (21, [a 0], .tup [a 3, bo 4]), (22, [.agg [a 40, a 41, a 42, a 43, a 44, a 45, a 46, a 47, a 48, a 49, a 50]], a 52)], [], [], [], [], [], [], []⟩

noncomputable def L_bits9 : List (FuncId × List AV × List Sh) := [(9, [instB 0 9], [.i 0, .b 1])]

theorem s_bits9 : St (outsI 9) L_bits9 T_bits9 (fun _ => .tt) := ⟨by kernel_rfl, (wf1 (l := L_bits9) rfl (by simp [wfVs, wfV])), by kernel_rfl, phi_tt⟩

abbrev Bits9 (val : Nat → Int) : Prop := Cl Try.prog dnB (outsI 9) [.ge (.a 1) 9] L_bits9 2 (RofP (fun _ => .tt)) T_bits9 val

noncomputable def T_chk9 : Tb := ⟨[(18, [a 0], bo 2)], [], [], [], [⟨9, [pat 9], .tup [a 5, bo 6], []⟩], [], [], []⟩

noncomputable def L_chk9 : List (FuncId × List AV × List Sh) := [(8, [instB 0 9], [.i 0])]

noncomputable def P_chk9 (Y : List SX) : SB := (.not (.eq (Y.getD 0 (.c 0)) (.c 0)))

theorem s_chk9 : St (outsI 9) L_chk9 T_chk9 P_chk9 := ⟨by kernel_rfl, (wf1 (l := L_chk9) rfl (by simp [wfVs, wfV])), by kernel_rfl, fun h => by unfold RofP; simpa only [P_chk9, SB.eval, SX.eval, getD_c, getD_map_eval] using h⟩

abbrev Chk9 (val : Nat → Int) : Prop := Cl Try.prog dnK (outsI 9) [.ge (.a 1) 9] L_chk9 1 (RofP P_chk9) T_chk9 val

end Go.Proofs.Ytlggmhchgicjkaa.Tab
