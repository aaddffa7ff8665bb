/-
  Shapes: claims.
-/
import Derived.Test.YtlggmhchgicjkaaNamH
namespace Go.Proofs.Ytlggmhchgicjkaa.Tab
open Go.Sim
set_option maxRecDepth 100000

noncomputable def T_slot1 : Tb := ⟨[], [], [], [], [], [], [], []⟩

noncomputable def L_slot1 : List (FuncId × List AV × List Sh) := [(13, [fA, ci 1], [.i 0])]

theorem s_slot1 : St outsF L_slot1 T_slot1 (fun _ => .tt) := ⟨by kernel_rfl, (wf1 (l := L_slot1) rfl (wfFc _)), by kernel_rfl, phi_tt⟩

abbrev Slot1 (val : Nat → Int) : Prop := Cl Try.prog dn0 outsF [] L_slot1 1 (RofP (fun _ => .tt)) T_slot1 val

noncomputable def T_slot2 : Tb := ⟨[], [], [], [], [], [], [], []⟩

noncomputable def L_slot2 : List (FuncId × List AV × List Sh) := [(13, [fA, ci 2], [.i 0])]

theorem s_slot2 : St outsF L_slot2 T_slot2 (fun _ => .tt) := ⟨by kernel_rfl, (wf1 (l := L_slot2) rfl (wfFc _)), by kernel_rfl, phi_tt⟩

abbrev Slot2 (val : Nat → Int) : Prop := Cl Try.prog dn0 outsF [] L_slot2 1 (RofP (fun _ => .tt)) T_slot2 val

noncomputable def T_slot3 : Tb := ⟨[], [], [], [], [], [], [], []⟩

noncomputable def L_slot3 : List (FuncId × List AV × List Sh) := [(13, [fA, ci 3], [.i 0])]

theorem s_slot3 : St outsF L_slot3 T_slot3 (fun _ => .tt) := ⟨by kernel_rfl, (wf1 (l := L_slot3) rfl (wfFc _)), by kernel_rfl, phi_tt⟩

abbrev Slot3 (val : Nat → Int) : Prop := Cl Try.prog dn0 outsF [] L_slot3 1 (RofP (fun _ => .tt)) T_slot3 val

noncomputable def T_slot4 : Tb := ⟨[], [], [], [], [], [], [], []⟩

noncomputable def L_slot4 : List (FuncId × List AV × List Sh) := [(13, [fA, ci 4], [.i 0])]

theorem s_slot4 : St outsF L_slot4 T_slot4 (fun _ => .tt) := ⟨by kernel_rfl, (wf1 (l := L_slot4) rfl (wfFc _)), by kernel_rfl, phi_tt⟩

abbrev Slot4 (val : Nat → Int) : Prop := Cl Try.prog dn0 outsF [] L_slot4 1 (RofP (fun _ => .tt)) T_slot4 val

noncomputable def T_slot7 : Tb := ⟨[], [], [], [], [], [], [], []⟩

noncomputable def L_slot7 : List (FuncId × List AV × List Sh) := [(13, [fA, ci 7], [.i 0])]

theorem s_slot7 : St outsF L_slot7 T_slot7 (fun _ => .tt) := ⟨by kernel_rfl, (wf1 (l := L_slot7) rfl (wfFc _)), by kernel_rfl, phi_tt⟩

abbrev Slot7 (val : Nat → Int) : Prop := Cl Try.prog dn0 outsF [] L_slot7 1 (RofP (fun _ => .tt)) T_slot7 val

noncomputable def T_once0 : Tb := ⟨[], [], [], [], [], [], [], []⟩

noncomputable def L_once0 : List (FuncId × List AV × List Sh) := [(62, [slR], [.b 0])]

theorem s_once0 : St outsF L_once0 T_once0 (fun _ => .tt) := ⟨by kernel_rfl, (wf1 (l := L_once0) rfl wfS), by kernel_rfl, phi_tt⟩

abbrev Once0 (val : Nat → Int) : Prop := Cl Try.prog dn0 outsF [] L_once0 1 (RofP (fun _ => .tt)) T_once0 val

noncomputable def T_once1 : Tb := ⟨[], [], [], [], [], [], [], []⟩

noncomputable def L_once1 : List (FuncId × List AV × List Sh) := [(62, [slR], [.b 0])]

theorem s_once1 : St outsF L_once1 T_once1 (fun _ => .tt) := ⟨by kernel_rfl, (wf1 (l := L_once1) rfl wfS), by kernel_rfl, phi_tt⟩

abbrev Once1 (val : Nat → Int) : Prop := Cl Try.prog dn0 outsF [] L_once1 1 (RofP (fun _ => .tt)) T_once1 val

noncomputable def T_once2 : Tb := ⟨[], [], [], [], [], [], [], []⟩

noncomputable def L_once2 : List (FuncId × List AV × List Sh) := [(62, [slR], [.b 0])]

theorem s_once2 : St outsF L_once2 T_once2 (fun _ => .tt) := ⟨by kernel_rfl, (wf1 (l := L_once2) rfl wfS), by kernel_rfl, phi_tt⟩

abbrev Once2 (val : Nat → Int) : Prop := Cl Try.prog dn0 outsF [] L_once2 1 (RofP (fun _ => .tt)) T_once2 val

noncomputable def T_once3 : Tb := ⟨[], [], [], [], [], [], [], []⟩

noncomputable def L_once3 : List (FuncId × List AV × List Sh) := [(62, [slR], [.b 0])]

theorem s_once3 : St outsF L_once3 T_once3 (fun _ => .tt) := ⟨by kernel_rfl, (wf1 (l := L_once3) rfl wfS), by kernel_rfl, phi_tt⟩

abbrev Once3 (val : Nat → Int) : Prop := Cl Try.prog dn0 outsF [] L_once3 1 (RofP (fun _ => .tt)) T_once3 val

noncomputable def T_once4 : Tb := ⟨[], [], [], [], [], [], [], []⟩

noncomputable def L_once4 : List (FuncId × List AV × List Sh) := [(62, [slR], [.b 0])]

theorem s_once4 : St outsF L_once4 T_once4 (fun _ => .tt) := ⟨by kernel_rfl, (wf1 (l := L_once4) rfl wfS), by kernel_rfl, phi_tt⟩

abbrev Once4 (val : Nat → Int) : Prop := Cl Try.prog dn0 outsF [] L_once4 1 (RofP (fun _ => .tt)) T_once4 val

noncomputable def T_goes : Tb := ⟨[], [], [], [], [], [], [], []⟩

noncomputable def L_goes : List (FuncId × List AV × List Sh) := [(69, [a 0, a 1], [.b 0])]

noncomputable def P_goes (Y : List SX) : SB := (.or (.not (.eq (Y.getD 0 (.c 0)) (.c 1))) (.and (.le (.c 1) (.a 0)) (.le (.a 0) (.c 34))))

theorem s_goes : St [] L_goes T_goes P_goes := ⟨by kernel_rfl, (wf1 (l := L_goes) rfl (by simp [wfVs, wfV])), by kernel_rfl, fun h => by unfold RofP; simpa only [P_goes, SB.eval, SX.eval, getD_c, getD_map_eval] using h⟩

abbrev Goes (val : Nat → Int) : Prop := Cl Try.prog dnA [] [] L_goes 1 (RofP P_goes) T_goes val

noncomputable def T_taken : Tb := ⟨[], [], [], [], [], [], [], []⟩

noncomputable def L_taken : List (FuncId × List AV × List Sh) := [(64, [a 0], [.b 0])]

theorem s_taken : St [] L_taken T_taken (fun _ => .tt) := ⟨by kernel_rfl, (wf1 (l := L_taken) rfl (by simp [wfVs, wfV])), by kernel_rfl, phi_tt⟩

abbrev Taken (val : Nat → Int) : Prop := Cl Try.prog dnA [] [] L_taken 1 (RofP (fun _ => .tt)) T_taken val

noncomputable def T_matched : Tb := ⟨[(69, [a 400, a 500], bo 620), (69, [a 401, a 501], bo 621), (69, [a 402, a 502], bo 622), (69, [a 403, a 503], bo 623)], [], [], [], [], [], [], []⟩

noncomputable def L_matched : List (FuncId × List AV × List Sh) := [(63, [fA], [.b 0])]

noncomputable def P_matched (Y : List SX) : SB := (.or (.not (.eq (Y.getD 0 (.c 0)) (.c 1))) (.and (.eq (.a 11) (.a 13)) (.and (.or (.le (.a 13) (.c 0)) (.eq (.a 620) (.c 1))) (.and (.or (.le (.a 13) (.c 1)) (.eq (.a 621) (.c 1))) (.and (.or (.le (.a 13) (.c 2)) (.eq (.a 622) (.c 1))) (.and (.or (.le (.a 13) (.c 3)) (.eq (.a 623) (.c 1))) .tt))))))

theorem s_matched : St outsF L_matched T_matched P_matched := ⟨by kernel_rfl, (wf1 (l := L_matched) rfl wfF), by kernel_rfl, fun h => by unfold RofP; simpa only [P_matched, SB.eval, SX.eval, getD_c, getD_map_eval] using h⟩

abbrev Matched (val : Nat → Int) : Prop := Cl Try.prog dnM outsF [] L_matched 1 (RofP P_matched) T_matched val

noncomputable def T_prefixed : Tb := ⟨[], [], outsF, [(13, [fA, ci 3], a 603), (13, [fA, ci 7], a 607)], [], [], [], []⟩

noncomputable def L_prefixed : List (FuncId × List AV × List Sh) := [(61, [fA], [.b 0])]

theorem s_prefixed : St outsF L_prefixed T_prefixed (fun _ => .tt) := ⟨by kernel_rfl, (wf1 (l := L_prefixed) rfl wfF), by kernel_rfl, phi_tt⟩

abbrev Prefixed (val : Nat → Int) : Prop := Cl Try.prog dnP outsF [] L_prefixed 1 (RofP (fun _ => .tt)) T_prefixed val

noncomputable def T_check : Tb := ⟨[(18, [a 20], bo 614), (64, [a 23], bo 613)], [], outsF, [(61, [fA], bo 610), (62, [slR], bo 611), (63, [fA], bo 612), (13, [fA, ci 1], a 601), (13, [fA, ci 2], a 602), (13, [fA, ci 4], a 604)], [], [], [], []⟩

noncomputable def L_check : List (FuncId × List AV × List Sh) := [(7, [fA], [.i 0])]

noncomputable def P_check (Y : List SX) : SB := (.or (.not (.eq (Y.getD 0 (.c 0)) (.c 0))) (.eq (.a 612) (.c 1)))

theorem s_check : St outsF L_check T_check P_check := ⟨by kernel_rfl, (wf1 (l := L_check) rfl wfF), by kernel_rfl, fun h => by unfold RofP; simpa only [P_check, SB.eval, SX.eval, getD_c, getD_map_eval] using h⟩

abbrev Check (val : Nat → Int) : Prop := Cl Try.prog dnF outsF [] L_check 1 (RofP P_check) T_check val

noncomputable def T_checkA : Tb := ⟨[(18, [a 20], bo 614)], [], [], [], [], [], [], []⟩

noncomputable def L_checkA : List (FuncId × List AV × List Sh) := [(7, [fA], [.i 0])]

noncomputable def P_checkA (Y : List SX) : SB := (.not (.eq (Y.getD 0 (.c 0)) (.c 0)))

theorem s_checkA : St outsF L_checkA T_checkA P_checkA := ⟨by kernel_rfl, (wf1 (l := L_checkA) rfl wfF), by kernel_rfl, fun h => by unfold RofP; simpa only [P_checkA, SB.eval, SX.eval, getD_c, getD_map_eval] using h⟩

abbrev CheckA (val : Nat → Int) : Prop := Cl Try.prog dnF outsF [] L_checkA 1 (RofP P_checkA) T_checkA val

noncomputable def T_checkB : Tb := ⟨[(18, [a 20], bo 614)], [], [], [], [], [], [], []⟩

noncomputable def L_checkB : List (FuncId × List AV × List Sh) := [(7, [fA], [.i 0])]

noncomputable def P_checkB (Y : List SX) : SB := (.not (.eq (Y.getD 0 (.c 0)) (.c 0)))

theorem s_checkB : St outsF L_checkB T_checkB P_checkB := ⟨by kernel_rfl, (wf1 (l := L_checkB) rfl wfF), by kernel_rfl, fun h => by unfold RofP; simpa only [P_checkB, SB.eval, SX.eval, getD_c, getD_map_eval] using h⟩

abbrev CheckB (val : Nat → Int) : Prop := Cl Try.prog dnF outsF [] L_checkB 1 (RofP P_checkB) T_checkB val

noncomputable def T_checkZ : Tb := ⟨[(18, [a 20], bo 614), (64, [a 23], bo 613)], [], [], [], [], [], [], []⟩

noncomputable def L_checkZ : List (FuncId × List AV × List Sh) := [(7, [fZ], [.i 0])]

theorem s_checkZ : St [] L_checkZ T_checkZ (fun _ => .tt) := ⟨by kernel_rfl, (wf1 (l := L_checkZ) rfl (by simp [wfVs, wfV])), by kernel_rfl, phi_tt⟩

abbrev CheckZ (val : Nat → Int) : Prop := Cl Try.prog dnF [] [] L_checkZ 1 (RofP (fun _ => .tt)) T_checkZ val

/-- The functions that tell what fits a shape. -/
def clD : List PD := [⟨30, []⟩, ⟨31, []⟩, ⟨32, []⟩, ⟨33, []⟩, ⟨34, []⟩, ⟨35, []⟩, ⟨36, []⟩, ⟨37, []⟩, ⟨39, []⟩, ⟨40, []⟩, ⟨41, []⟩, ⟨42, []⟩, ⟨43, []⟩, ⟨44, []⟩, ⟨45, []⟩, ⟨46, []⟩, ⟨48, []⟩, ⟨49, []⟩, ⟨50, []⟩, ⟨51, []⟩, ⟨52, []⟩, ⟨53, []⟩, ⟨54, []⟩, ⟨55, []⟩, ⟨56, []⟩, ⟨57, []⟩, ⟨58, []⟩, ⟨59, []⟩, ⟨28, [1, 0]⟩, ⟨28, [3, 0]⟩, ⟨28, [4, 0]⟩, ⟨28, [5, 0]⟩, ⟨28, [1, 1]⟩, ⟨60, []⟩, ⟨47, []⟩]

/-- What they tell, of an operand's cells (0 to 10), its bits (11) and number (12). -/
def fitB : List SB := [.ff, (.and (.eq (.a 0) (.c 1)) (.or (.eq (.a 1) (.c 1)) (.eq (.a 1) (.c 2)))), (.and (.eq (.a 0) (.c 1)) (.eq (.a 1) (.c 3))), (.and (.eq (.a 0) (.c 1)) (.eq (.a 1) (.c 4))), (.and (.eq (.a 0) (.c 1)) (.eq (.a 1) (.c 5))), (.and (.eq (.a 0) (.c 1)) (.eq (.a 1) (.c 6))), (.and (.eq (.a 0) (.c 1)) (.eq (.a 1) (.c 7))), (.or (.and (.eq (.a 0) (.c 1)) (.or (.eq (.a 1) (.c 1)) (.eq (.a 1) (.c 2)))) (.and (.eq (.a 0) (.c 2)) (.eq (.a 9) (.c 1)))), (.or (.and (.eq (.a 0) (.c 1)) (.eq (.a 1) (.c 3))) (.and (.eq (.a 0) (.c 2)) (.eq (.a 9) (.c 2)))), (.or (.and (.eq (.a 0) (.c 1)) (.eq (.a 1) (.c 4))) (.and (.eq (.a 0) (.c 2)) (.eq (.a 9) (.c 4)))), (.or (.and (.eq (.a 0) (.c 1)) (.eq (.a 1) (.c 5))) (.and (.eq (.a 0) (.c 2)) (.eq (.a 9) (.c 8)))), (.or (.and (.eq (.a 0) (.c 1)) (.eq (.a 1) (.c 6))) (.and (.eq (.a 0) (.c 2)) (.eq (.a 9) (.c 4)))), (.or (.and (.eq (.a 0) (.c 1)) (.eq (.a 1) (.c 6))) (.and (.eq (.a 0) (.c 2)) (.eq (.a 9) (.c 8)))), (.or (.and (.eq (.a 0) (.c 1)) (.eq (.a 1) (.c 6))) (.and (.eq (.a 0) (.c 2)) (.eq (.a 9) (.c 16)))), (.or (.and (.eq (.a 0) (.c 1)) (.eq (.a 1) (.c 7))) (.and (.eq (.a 0) (.c 2)) (.eq (.a 9) (.c 32)))), (.and (.eq (.a 0) (.c 2)) (.eq (.a 9) (.c 0))), (.and (.eq (.a 0) (.c 2)) (.eq (.a 9) (.c 4))), (.and (.eq (.a 0) (.c 2)) (.eq (.a 9) (.c 8))), (.and (.eq (.a 0) (.c 2)) (.eq (.a 9) (.c 16))), (.and (.eq (.a 0) (.c 2)) (.eq (.a 9) (.c 32))), (.eq (.a 11) (.c 8)), (.and (.lt (.c 8) (.a 11)) (.and (.le (.c (-128)) (.a 12)) (.le (.a 12) (.c 127)))), (.eq (.a 11) (.c 16)), (.eq (.a 11) (.c 32)), (.and (.eq (.a 11) (.c 64)) (.and (.le (.c (-2147483648)) (.a 12)) (.le (.a 12) (.c 2147483647)))), (.eq (.a 11) (.c 64)), (.and (.eq (.a 0) (.c 4)) (.and (.le (.c (-128)) (.a 10)) (.le (.a 10) (.c 127)))), (.eq (.a 0) (.c 4)), (.and (.eq (.a 0) (.c 1)) (.and (.eq (.a 1) (.c 1)) (.eq (.a 2) (.c 0)))), (.and (.eq (.a 0) (.c 1)) (.and (.eq (.a 1) (.c 3)) (.eq (.a 2) (.c 0)))), (.and (.eq (.a 0) (.c 1)) (.and (.eq (.a 1) (.c 4)) (.eq (.a 2) (.c 0)))), (.and (.eq (.a 0) (.c 1)) (.and (.eq (.a 1) (.c 5)) (.eq (.a 2) (.c 0)))), (.and (.eq (.a 0) (.c 1)) (.and (.eq (.a 1) (.c 1)) (.eq (.a 2) (.c 1)))), (.and (.lt (.c 0) (.a 11)) (.eq (.a 12) (.c 1))), (.and (.eq (.a 0) (.c 2)) (.eq (.a 9) (.c 2)))]

abbrev giv : AV := .agg [a 0, a 1, a 2, a 3, a 4, a 5, a 6, a 7, a 8, a 9, a 10, a 11, a 12]

noncomputable def fitL (s : Nat) : List (FuncId × List AV × List Sh) := [((clD.getD s ⟨0, []⟩).f, giv :: cond (clD.getD s ⟨0, []⟩).ns.isEmpty [] [.op 0 0, .op 1 0], [.b 0])]

noncomputable def fitO (s : Nat) : List (Nat × List AV) := (clD.getD s ⟨0, []⟩).ns.map fun n => (1, [ci n])

noncomputable def P_fit (s : Nat) (Y : List SX) : SB := .and (.or (.not (.eq (Y.getD 0 (.c 0)) (.c 1))) (fitB.getD s .ff)) (.or (.not (fitB.getD s .ff)) (.eq (Y.getD 0 (.c 0)) (.c 1)))

noncomputable def T_fit : Tb := ⟨[], [], [], [], [], [], [], []⟩

theorem p_fit {s : Nat} {val : Nat → Int} {Y : List SX} (h : (P_fit s Y).eval val = true) : RofP (P_fit s) val (Y.map (SX.eval val)) := by
  unfold RofP
  simpa only [P_fit, SB.eval, SX.eval, getD_c, getD_map_eval] using h

abbrev FitC (s : Nat) (val : Nat → Int) : Prop := Cl Try.prog dnA (fitO s) [] (fitL s) 1 (RofP (P_fit s)) T_fit val

theorem sf0 : St (fitO 0) (fitL 0) T_fit (P_fit 0) := ⟨by kernel_rfl, wf1 rfl (by simp [wfVs, wfV, fitO, clD]), by kernel_rfl, p_fit⟩

theorem sf1 : St (fitO 1) (fitL 1) T_fit (P_fit 1) := ⟨by kernel_rfl, wf1 rfl (by simp [wfVs, wfV, fitO, clD]), by kernel_rfl, p_fit⟩

theorem sf2 : St (fitO 2) (fitL 2) T_fit (P_fit 2) := ⟨by kernel_rfl, wf1 rfl (by simp [wfVs, wfV, fitO, clD]), by kernel_rfl, p_fit⟩

theorem sf3 : St (fitO 3) (fitL 3) T_fit (P_fit 3) := ⟨by kernel_rfl, wf1 rfl (by simp [wfVs, wfV, fitO, clD]), by kernel_rfl, p_fit⟩

theorem sf4 : St (fitO 4) (fitL 4) T_fit (P_fit 4) := ⟨by kernel_rfl, wf1 rfl (by simp [wfVs, wfV, fitO, clD]), by kernel_rfl, p_fit⟩

theorem sf5 : St (fitO 5) (fitL 5) T_fit (P_fit 5) := ⟨by kernel_rfl, wf1 rfl (by simp [wfVs, wfV, fitO, clD]), by kernel_rfl, p_fit⟩

theorem sf6 : St (fitO 6) (fitL 6) T_fit (P_fit 6) := ⟨by kernel_rfl, wf1 rfl (by simp [wfVs, wfV, fitO, clD]), by kernel_rfl, p_fit⟩

theorem sf7 : St (fitO 7) (fitL 7) T_fit (P_fit 7) := ⟨by kernel_rfl, wf1 rfl (by simp [wfVs, wfV, fitO, clD]), by kernel_rfl, p_fit⟩

theorem sf8 : St (fitO 8) (fitL 8) T_fit (P_fit 8) := ⟨by kernel_rfl, wf1 rfl (by simp [wfVs, wfV, fitO, clD]), by kernel_rfl, p_fit⟩

theorem sf9 : St (fitO 9) (fitL 9) T_fit (P_fit 9) := ⟨by kernel_rfl, wf1 rfl (by simp [wfVs, wfV, fitO, clD]), by kernel_rfl, p_fit⟩

theorem sf10 : St (fitO 10) (fitL 10) T_fit (P_fit 10) := ⟨by kernel_rfl, wf1 rfl (by simp [wfVs, wfV, fitO, clD]), by kernel_rfl, p_fit⟩

theorem sf11 : St (fitO 11) (fitL 11) T_fit (P_fit 11) := ⟨by kernel_rfl, wf1 rfl (by simp [wfVs, wfV, fitO, clD]), by kernel_rfl, p_fit⟩

theorem sf12 : St (fitO 12) (fitL 12) T_fit (P_fit 12) := ⟨by kernel_rfl, wf1 rfl (by simp [wfVs, wfV, fitO, clD]), by kernel_rfl, p_fit⟩

theorem sf13 : St (fitO 13) (fitL 13) T_fit (P_fit 13) := ⟨by kernel_rfl, wf1 rfl (by simp [wfVs, wfV, fitO, clD]), by kernel_rfl, p_fit⟩

theorem sf14 : St (fitO 14) (fitL 14) T_fit (P_fit 14) := ⟨by kernel_rfl, wf1 rfl (by simp [wfVs, wfV, fitO, clD]), by kernel_rfl, p_fit⟩

theorem sf15 : St (fitO 15) (fitL 15) T_fit (P_fit 15) := ⟨by kernel_rfl, wf1 rfl (by simp [wfVs, wfV, fitO, clD]), by kernel_rfl, p_fit⟩

theorem sf16 : St (fitO 16) (fitL 16) T_fit (P_fit 16) := ⟨by kernel_rfl, wf1 rfl (by simp [wfVs, wfV, fitO, clD]), by kernel_rfl, p_fit⟩

theorem sf17 : St (fitO 17) (fitL 17) T_fit (P_fit 17) := ⟨by kernel_rfl, wf1 rfl (by simp [wfVs, wfV, fitO, clD]), by kernel_rfl, p_fit⟩

theorem sf18 : St (fitO 18) (fitL 18) T_fit (P_fit 18) := ⟨by kernel_rfl, wf1 rfl (by simp [wfVs, wfV, fitO, clD]), by kernel_rfl, p_fit⟩

theorem sf19 : St (fitO 19) (fitL 19) T_fit (P_fit 19) := ⟨by kernel_rfl, wf1 rfl (by simp [wfVs, wfV, fitO, clD]), by kernel_rfl, p_fit⟩

theorem sf20 : St (fitO 20) (fitL 20) T_fit (P_fit 20) := ⟨by kernel_rfl, wf1 rfl (by simp [wfVs, wfV, fitO, clD]), by kernel_rfl, p_fit⟩

theorem sf21 : St (fitO 21) (fitL 21) T_fit (P_fit 21) := ⟨by kernel_rfl, wf1 rfl (by simp [wfVs, wfV, fitO, clD]), by kernel_rfl, p_fit⟩

theorem sf22 : St (fitO 22) (fitL 22) T_fit (P_fit 22) := ⟨by kernel_rfl, wf1 rfl (by simp [wfVs, wfV, fitO, clD]), by kernel_rfl, p_fit⟩

theorem sf23 : St (fitO 23) (fitL 23) T_fit (P_fit 23) := ⟨by kernel_rfl, wf1 rfl (by simp [wfVs, wfV, fitO, clD]), by kernel_rfl, p_fit⟩

theorem sf24 : St (fitO 24) (fitL 24) T_fit (P_fit 24) := ⟨by kernel_rfl, wf1 rfl (by simp [wfVs, wfV, fitO, clD]), by kernel_rfl, p_fit⟩

theorem sf25 : St (fitO 25) (fitL 25) T_fit (P_fit 25) := ⟨by kernel_rfl, wf1 rfl (by simp [wfVs, wfV, fitO, clD]), by kernel_rfl, p_fit⟩

theorem sf26 : St (fitO 26) (fitL 26) T_fit (P_fit 26) := ⟨by kernel_rfl, wf1 rfl (by simp [wfVs, wfV, fitO, clD]), by kernel_rfl, p_fit⟩

theorem sf27 : St (fitO 27) (fitL 27) T_fit (P_fit 27) := ⟨by kernel_rfl, wf1 rfl (by simp [wfVs, wfV, fitO, clD]), by kernel_rfl, p_fit⟩

theorem sf28 : St (fitO 28) (fitL 28) T_fit (P_fit 28) := ⟨by kernel_rfl, wf1 rfl (by simp [wfVs, wfV, fitO, clD]), by kernel_rfl, p_fit⟩

theorem sf29 : St (fitO 29) (fitL 29) T_fit (P_fit 29) := ⟨by kernel_rfl, wf1 rfl (by simp [wfVs, wfV, fitO, clD]), by kernel_rfl, p_fit⟩

theorem sf30 : St (fitO 30) (fitL 30) T_fit (P_fit 30) := ⟨by kernel_rfl, wf1 rfl (by simp [wfVs, wfV, fitO, clD]), by kernel_rfl, p_fit⟩

theorem sf31 : St (fitO 31) (fitL 31) T_fit (P_fit 31) := ⟨by kernel_rfl, wf1 rfl (by simp [wfVs, wfV, fitO, clD]), by kernel_rfl, p_fit⟩

theorem sf32 : St (fitO 32) (fitL 32) T_fit (P_fit 32) := ⟨by kernel_rfl, wf1 rfl (by simp [wfVs, wfV, fitO, clD]), by kernel_rfl, p_fit⟩

theorem sf33 : St (fitO 33) (fitL 33) T_fit (P_fit 33) := ⟨by kernel_rfl, wf1 rfl (by simp [wfVs, wfV, fitO, clD]), by kernel_rfl, p_fit⟩

theorem sf34 : St (fitO 34) (fitL 34) T_fit (P_fit 34) := ⟨by kernel_rfl, wf1 rfl (by simp [wfVs, wfV, fitO, clD]), by kernel_rfl, p_fit⟩

end Go.Proofs.Ytlggmhchgicjkaa.Tab
