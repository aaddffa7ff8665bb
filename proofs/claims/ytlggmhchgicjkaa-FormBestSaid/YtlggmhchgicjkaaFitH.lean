/-
  Fits by lengths: claims.
-/
import Derived.Test.YtlggmhchgicjkaaShpH
namespace Go.Proofs.Ytlggmhchgicjkaa.Tab
open Go.Sim
set_option maxRecDepth 100000

noncomputable def T_fits0 : Tb := ⟨[], [], outsF, [(7, [fA], a 28)], [⟨8, [patE], a 7, []⟩, ⟨9, [patE], .tup [a 5, bo 6], []⟩], clD, [], []⟩

noncomputable def L_fits0 : List (FuncId × List AV × List Sh) := [(6, [fA, instE], [.b 0])]

noncomputable def P_fits0 (Y : List SX) : SB := (.or (.not (.eq (Y.getD 0 (.c 0)) (.c 1))) (.and (.eq (.a 28) (.c 0)) (.and (.eq (.a 7) (.c 0)) (.and (.eq (.a 20) (.a 0)) (.eq (.a 11) (.c 0))))))

theorem s_fits0 : St outsF L_fits0 T_fits0 P_fits0 := ⟨by kernel_rfl, (wf1 (l := L_fits0) rfl (by simp [wfVs, wfV])), by kernel_rfl, fun h => by unfold RofP; simpa only [P_fits0, SB.eval, SX.eval, getD_c, getD_map_eval] using h⟩

abbrev Fits0 (val : Nat → Int) : Prop := Cl Try.prog dnX outsF [] L_fits0 1 (RofP P_fits0) T_fits0 val

noncomputable def T_fits1 : Tb := ⟨[], [(.eq (.a 40) (.c 3), 11, [a 50, a 5, bo 6], .tup [a 72, a 71])], outsF, [(7, [fA], a 28)], [⟨8, [pat 1], a 7, []⟩, ⟨9, [pat 1], .tup [a 5, bo 6], []⟩], clD, [(.not (.eq (.a 40) (.c 3)), .a 400, [.agg [a 40, a 41, a 42, a 43, a 44, a 45, a 46, a 47, a 48, a 49, a 50, ci 0, ci 0]], bo 73), (.eq (.a 40) (.c 3), .a 400, [.agg [a 40, a 41, a 42, a 43, a 44, a 45, a 46, a 47, a 48, a 49, a 50, a 5, a 72]], bo 74)], []⟩

noncomputable def L_fits1 : List (FuncId × List AV × List Sh) := [(6, [fA, instB 2 1], [.b 0])]

noncomputable def P_fits1 (Y : List SX) : SB := (.or (.not (.eq (Y.getD 0 (.c 0)) (.c 1))) (.and (.eq (.a 28) (.c 0)) (.and (.eq (.a 7) (.c 0)) (.and (.eq (.a 20) (.a 0)) (.eq (.a 11) (.c 1))))))

theorem s_fits1 : St (outsN 1) L_fits1 T_fits1 P_fits1 := ⟨by kernel_rfl, (wf1 (l := L_fits1) rfl (by simp [wfVs, wfV])), by kernel_rfl, fun h => by unfold RofP; simpa only [P_fits1, SB.eval, SX.eval, getD_c, getD_map_eval] using h⟩

abbrev Fits1 (val : Nat → Int) : Prop := Cl Try.prog dnX (outsN 1) [.ge (.a 1) 1] L_fits1 1 (RofP P_fits1) T_fits1 val

noncomputable def T_fits2 : Tb := ⟨[], [(.eq (.a 40) (.c 3), 11, [a 50, a 5, bo 6], .tup [a 72, a 71]), (.eq (.a 80) (.c 3), 11, [a 90, a 5, bo 6], .tup [a 112, a 111])], outsF, [(7, [fA], a 28)], [⟨8, [pat 2], a 7, []⟩, ⟨9, [pat 2], .tup [a 5, bo 6], []⟩], clD, [(.not (.eq (.a 40) (.c 3)), .a 400, [.agg [a 40, a 41, a 42, a 43, a 44, a 45, a 46, a 47, a 48, a 49, a 50, ci 0, ci 0]], bo 73), (.eq (.a 40) (.c 3), .a 400, [.agg [a 40, a 41, a 42, a 43, a 44, a 45, a 46, a 47, a 48, a 49, a 50, a 5, a 72]], bo 74), (.not (.eq (.a 80) (.c 3)), .a 401, [.agg [a 80, a 81, a 82, a 83, a 84, a 85, a 86, a 87, a 88, a 89, a 90, ci 0, ci 0]], bo 113), (.eq (.a 80) (.c 3), .a 401, [.agg [a 80, a 81, a 82, a 83, a 84, a 85, a 86, a 87, a 88, a 89, a 90, a 5, a 112]], bo 114)], []⟩

noncomputable def L_fits2 : List (FuncId × List AV × List Sh) := [(6, [fA, instB 2 2], [.b 0])]

noncomputable def P_fits2 (Y : List SX) : SB := (.or (.not (.eq (Y.getD 0 (.c 0)) (.c 1))) (.and (.eq (.a 28) (.c 0)) (.and (.eq (.a 7) (.c 0)) (.and (.eq (.a 20) (.a 0)) (.eq (.a 11) (.c 2))))))

theorem s_fits2 : St (outsN 2) L_fits2 T_fits2 P_fits2 := ⟨by kernel_rfl, (wf1 (l := L_fits2) rfl (by simp [wfVs, wfV])), by kernel_rfl, fun h => by unfold RofP; simpa only [P_fits2, SB.eval, SX.eval, getD_c, getD_map_eval] using h⟩

abbrev Fits2 (val : Nat → Int) : Prop := Cl Try.prog dnX (outsN 2) [.ge (.a 1) 2] L_fits2 1 (RofP P_fits2) T_fits2 val

noncomputable def T_fits3 : Tb := ⟨[], [(.eq (.a 40) (.c 3), 11, [a 50, a 5, bo 6], .tup [a 72, a 71]), (.eq (.a 80) (.c 3), 11, [a 90, a 5, bo 6], .tup [a 112, a 111]), (.eq (.a 120) (.c 3), 11, [a 130, a 5, bo 6], .tup [a 152, a 151])], outsF, [(7, [fA], a 28)], [⟨8, [pat 3], a 7, []⟩, ⟨9, [pat 3], .tup [a 5, bo 6], []⟩], clD, [(.not (.eq (.a 40) (.c 3)), .a 400, [.agg [a 40, a 41, a 42, a 43, a 44, a 45, a 46, a 47, a 48, a 49, a 50, ci 0, ci 0]], bo 73), (.eq (.a 40) (.c 3), .a 400, [.agg [a 40, a 41, a 42, a 43, a 44, a 45, a 46, a 47, a 48, a 49, a 50, a 5, a 72]], bo 74), (.not (.eq (.a 80) (.c 3)), .a 401, [.agg [a 80, a 81, a 82, a 83, a 84, a 85, a 86, a 87, a 88, a 89, a 90, ci 0, ci 0]], bo 113), (.eq (.a 80) (.c 3), .a 401, [.agg [a 80, a 81, a 82, a 83, a 84, a 85, a 86, a 87, a 88, a 89, a 90, a 5, a 112]], bo 114), (.not (.eq (.a 120) (.c 3)), .a 402, [.agg [a 120, a 121, a 122, a 123, a 124, a 125, a 126, a 127, a 128, a 129, a 130, ci 0, ci 0]], bo 153), (.eq (.a 120) (.c 3), .a 402, [.agg [a 120, a 121, a 122, a 123, a 124, a 125, a 126, a 127, a 128, a 129, a 130, a 5, a 152]], bo 154)], []⟩

noncomputable def L_fits3 : List (FuncId × List AV × List Sh) := [(6, [fA, instB 2 3], [.b 0])]

noncomputable def P_fits3 (Y : List SX) : SB := (.or (.not (.eq (Y.getD 0 (.c 0)) (.c 1))) (.and (.eq (.a 28) (.c 0)) (.and (.eq (.a 7) (.c 0)) (.and (.eq (.a 20) (.a 0)) (.eq (.a 11) (.c 3))))))

theorem s_fits3 : St (outsN 3) L_fits3 T_fits3 P_fits3 := ⟨by kernel_rfl, (wf1 (l := L_fits3) rfl (by simp [wfVs, wfV])), by kernel_rfl, fun h => by unfold RofP; simpa only [P_fits3, SB.eval, SX.eval, getD_c, getD_map_eval] using h⟩

abbrev Fits3 (val : Nat → Int) : Prop := Cl Try.prog dnX (outsN 3) [.ge (.a 1) 3] L_fits3 1 (RofP P_fits3) T_fits3 val

noncomputable def T_fits4 : Tb := ⟨[], [(.eq (.a 40) (.c 3), 11, [a 50, a 5, bo 6], .tup [a 72, a 71]), (.eq (.a 80) (.c 3), 11, [a 90, a 5, bo 6], .tup [a 112, a 111]), (.eq (.a 120) (.c 3), 11, [a 130, a 5, bo 6], .tup [a 152, a 151]), (.eq (.a 160) (.c 3), 11, [a 170, a 5, bo 6], .tup [a 192, a 191])], outsF, [(7, [fA], a 28)], [⟨8, [pat 4], a 7, []⟩, ⟨9, [pat 4], .tup [a 5, bo 6], []⟩], clD, [(.not (.eq (.a 40) (.c 3)), .a 400, [.agg [a 40, a 41, a 42, a 43, a 44, a 45, a 46, a 47, a 48, a 49, a 50, ci 0, ci 0]], bo 73), (.eq (.a 40) (.c 3), .a 400, [.agg [a 40, a 41, a 42, a 43, a 44, a 45, a 46, a 47, a 48, a 49, a 50, a 5, a 72]], bo 74), (.not (.eq (.a 80) (.c 3)), .a 401, [.agg [a 80, a 81, a 82, a 83, a 84, a 85, a 86, a 87, a 88, a 89, a 90, ci 0, ci 0]], bo 113), (.eq (.a 80) (.c 3), .a 401, [.agg [a 80, a 81, a 82, a 83, a 84, a 85, a 86, a 87, a 88, a 89, a 90, a 5, a 112]], bo 114), (.not (.eq (.a 120) (.c 3)), .a 402, [.agg [a 120, a 121, a 122, a 123, a 124, a 125, a 126, a 127, a 128, a 129, a 130, ci 0, ci 0]], bo 153), (.eq (.a 120) (.c 3), .a 402, [.agg [a 120, a 121, a 122, a 123, a 124, a 125, a 126, a 127, a 128, a 129, a 130, a 5, a 152]], bo 154), (.not (.eq (.a 160) (.c 3)), .a 403, [.agg [a 160, a 161, a 162, a 163, a 164, a 165, a 166, a 167, a 168, a 169, a 170, ci 0, ci 0]], bo 193), (.eq (.a 160) (.c 3), .a 403, [.agg [a 160, a 161, a 162, a 163, a 164, a 165, a 166, a 167, a 168, a 169, a 170, a 5, a 192]], bo 194)], []⟩

noncomputable def L_fits4 : List (FuncId × List AV × List Sh) := [(6, [fA, instB 2 4], [.b 0])]

noncomputable def P_fits4 (Y : List SX) : SB := (.or (.not (.eq (Y.getD 0 (.c 0)) (.c 1))) (.and (.eq (.a 28) (.c 0)) (.and (.eq (.a 7) (.c 0)) (.and (.eq (.a 20) (.a 0)) (.eq (.a 11) (.c 4))))))

theorem s_fits4 : St (outsN 4) L_fits4 T_fits4 P_fits4 := ⟨by kernel_rfl, (wf1 (l := L_fits4) rfl (by simp [wfVs, wfV])), by kernel_rfl, fun h => by unfold RofP; simpa only [P_fits4, SB.eval, SX.eval, getD_c, getD_map_eval] using h⟩

abbrev Fits4 (val : Nat → Int) : Prop := Cl Try.prog dnX (outsN 4) [.ge (.a 1) 4] L_fits4 1 (RofP P_fits4) T_fits4 val

noncomputable def T_fits5 : Tb := ⟨[], [], outsF, [(7, [fA], a 28)], [⟨8, [pat 5], a 7, []⟩, ⟨9, [pat 5], .tup [a 5, bo 6], []⟩], clD, [], []⟩

noncomputable def L_fits5 : List (FuncId × List AV × List Sh) := [(6, [fA, instB 2 5], [.b 0])]

noncomputable def P_fits5 (Y : List SX) : SB := (.or (.not (.eq (Y.getD 0 (.c 0)) (.c 1))) (.and (.eq (.a 28) (.c 0)) (.and (.eq (.a 7) (.c 0)) (.and (.eq (.a 20) (.a 0)) (.eq (.a 11) (.c 5))))))

theorem s_fits5 : St (outsN 5) L_fits5 T_fits5 P_fits5 := ⟨by kernel_rfl, (wf1 (l := L_fits5) rfl (by simp [wfVs, wfV])), by kernel_rfl, fun h => by unfold RofP; simpa only [P_fits5, SB.eval, SX.eval, getD_c, getD_map_eval] using h⟩

abbrev Fits5 (val : Nat → Int) : Prop := Cl Try.prog dnX (outsN 5) [.ge (.a 1) 5] L_fits5 1 (RofP P_fits5) T_fits5 val

noncomputable def T_fits6 : Tb := ⟨[], [], outsF, [(7, [fA], a 28)], [⟨8, [pat 6], a 7, []⟩, ⟨9, [pat 6], .tup [a 5, bo 6], []⟩], clD, [], []⟩

noncomputable def L_fits6 : List (FuncId × List AV × List Sh) := [(6, [fA, instB 2 6], [.b 0])]

noncomputable def P_fits6 (Y : List SX) : SB := (.or (.not (.eq (Y.getD 0 (.c 0)) (.c 1))) (.and (.eq (.a 28) (.c 0)) (.and (.eq (.a 7) (.c 0)) (.and (.eq (.a 20) (.a 0)) (.eq (.a 11) (.c 6))))))

theorem s_fits6 : St (outsN 6) L_fits6 T_fits6 P_fits6 := ⟨by kernel_rfl, (wf1 (l := L_fits6) rfl (by simp [wfVs, wfV])), by kernel_rfl, fun h => by unfold RofP; simpa only [P_fits6, SB.eval, SX.eval, getD_c, getD_map_eval] using h⟩

abbrev Fits6 (val : Nat → Int) : Prop := Cl Try.prog dnX (outsN 6) [.ge (.a 1) 6] L_fits6 1 (RofP P_fits6) T_fits6 val

noncomputable def T_fits7 : Tb := ⟨[], [], outsF, [(7, [fA], a 28)], [⟨8, [pat 7], a 7, []⟩, ⟨9, [pat 7], .tup [a 5, bo 6], []⟩], clD, [], []⟩

noncomputable def L_fits7 : List (FuncId × List AV × List Sh) := [(6, [fA, instB 2 7], [.b 0])]

noncomputable def P_fits7 (Y : List SX) : SB := (.or (.not (.eq (Y.getD 0 (.c 0)) (.c 1))) (.and (.eq (.a 28) (.c 0)) (.and (.eq (.a 7) (.c 0)) (.and (.eq (.a 20) (.a 0)) (.eq (.a 11) (.c 7))))))

theorem s_fits7 : St (outsN 7) L_fits7 T_fits7 P_fits7 := ⟨by kernel_rfl, (wf1 (l := L_fits7) rfl (by simp [wfVs, wfV])), by kernel_rfl, fun h => by unfold RofP; simpa only [P_fits7, SB.eval, SX.eval, getD_c, getD_map_eval] using h⟩

abbrev Fits7 (val : Nat → Int) : Prop := Cl Try.prog dnX (outsN 7) [.ge (.a 1) 7] L_fits7 1 (RofP P_fits7) T_fits7 val

noncomputable def T_fits8 : Tb := ⟨[], [], outsF, [(7, [fA], a 28)], [⟨8, [pat 8], a 7, []⟩, ⟨9, [pat 8], .tup [a 5, bo 6], []⟩], clD, [], []⟩

noncomputable def L_fits8 : List (FuncId × List AV × List Sh) := [(6, [fA, instB 2 8], [.b 0])]

noncomputable def P_fits8 (Y : List SX) : SB := (.or (.not (.eq (Y.getD 0 (.c 0)) (.c 1))) (.and (.eq (.a 28) (.c 0)) (.and (.eq (.a 7) (.c 0)) (.and (.eq (.a 20) (.a 0)) (.eq (.a 11) (.c 8))))))

theorem s_fits8 : St (outsN 8) L_fits8 T_fits8 P_fits8 := ⟨by kernel_rfl, (wf1 (l := L_fits8) rfl (by simp [wfVs, wfV])), by kernel_rfl, fun h => by unfold RofP; simpa only [P_fits8, SB.eval, SX.eval, getD_c, getD_map_eval] using h⟩

abbrev Fits8 (val : Nat → Int) : Prop := Cl Try.prog dnX (outsN 8) [.ge (.a 1) 8] L_fits8 1 (RofP P_fits8) T_fits8 val

noncomputable def T_fits9 : Tb := ⟨[], [], outsF, [(7, [fA], a 28)], [⟨8, [pat 9], a 7, []⟩, ⟨9, [pat 9], .tup [a 5, bo 6], []⟩], clD, [], []⟩

noncomputable def L_fits9 : List (FuncId × List AV × List Sh) := [(6, [fA, instB 2 9], [.b 0])]

noncomputable def P_fits9 (Y : List SX) : SB := (.or (.not (.eq (Y.getD 0 (.c 0)) (.c 1))) (.and (.eq (.a 28) (.c 0)) (.and (.eq (.a 7) (.c 0)) (.and (.eq (.a 20) (.a 0)) (.eq (.a 11) (.c 9))))))

theorem s_fits9 : St (outsN 9) L_fits9 T_fits9 P_fits9 := ⟨by kernel_rfl, (wf1 (l := L_fits9) rfl (by simp [wfVs, wfV])), by kernel_rfl, fun h => by unfold RofP; simpa only [P_fits9, SB.eval, SX.eval, getD_c, getD_map_eval] using h⟩

abbrev Fits9 (val : Nat → Int) : Prop := Cl Try.prog dnX (outsN 9) [.ge (.a 1) 9] L_fits9 1 (RofP P_fits9) T_fits9 val

noncomputable def T_fits0z : Tb := ⟨[], [], [], [(7, [fZ], a 28)], [⟨8, [patE], a 7, []⟩, ⟨9, [patE], .tup [a 5, bo 6], []⟩], clD, [], []⟩

noncomputable def L_fits0z : List (FuncId × List AV × List Sh) := [(6, [fZ, instE], [.b 0])]

noncomputable def P_fits0z (Y : List SX) : SB := (.or (.not (.eq (Y.getD 0 (.c 0)) (.c 1))) (.and (.eq (.a 28) (.c 0)) (.and (.eq (.a 7) (.c 0)) (.and (.eq (.a 20) (.a 0)) (.eq (.a 11) (.c 0))))))

theorem s_fits0z : St [] L_fits0z T_fits0z P_fits0z := ⟨by kernel_rfl, (wf1 (l := L_fits0z) rfl (by simp [wfVs, wfV])), by kernel_rfl, fun h => by unfold RofP; simpa only [P_fits0z, SB.eval, SX.eval, getD_c, getD_map_eval] using h⟩

abbrev Fits0z (val : Nat → Int) : Prop := Cl Try.prog dnX [] [] L_fits0z 1 (RofP P_fits0z) T_fits0z val

end Go.Proofs.Ytlggmhchgicjkaa.Tab
