/-
  The law 'ModrmBack': what operand.Check and mem.Canon give of any operand.
-/
import Derived.Test.YtbenfglhomiocaaBakH
import Derived.Test.YtbenfglhomiocaaFndC
namespace Go.Proofs.Ytbenfglhomiocaa.Bak
open Go.Sim Go.Proofs.Ytbenfglhomiocaa.Fld Go.Proofs.Ytbenfglhomiocaa.Tab
set_option maxRecDepth 100000

/-- A size. -/
def isSz (n : Int) : Prop := n = 0 ∨ n = 1 ∨ n = 2 ∨ n = 4 ∨ n = 8 ∨ n = 16 ∨ n = 32

theorem sized49 (n : Int) : Ret Try.prog 49 [.int .i64 n] (.bool ([0, 1, 2, 4, 8, 16, 32].any (fun m => n == m))) := by
  by_cases h : isSz n
  · rcases h with rfl | rfl | rfl | rfl | rfl | rfl | rfl
    · exact retV (val := fun _ => 0) (F := []) holds_nil (tab := []) tabNil rfl rfl (f := 49) (args := [.v (.int .i64 0)]) (v := .v (.bool true)) (by kernel_rfl) (by kernel_rfl) (by kernel_rfl)
    · exact retV (val := fun _ => 1) (F := []) holds_nil (tab := []) tabNil rfl rfl (f := 49) (args := [.v (.int .i64 1)]) (v := .v (.bool true)) (by kernel_rfl) (by kernel_rfl) (by kernel_rfl)
    · exact retV (val := fun _ => 2) (F := []) holds_nil (tab := []) tabNil rfl rfl (f := 49) (args := [.v (.int .i64 2)]) (v := .v (.bool true)) (by kernel_rfl) (by kernel_rfl) (by kernel_rfl)
    · exact retV (val := fun _ => 4) (F := []) holds_nil (tab := []) tabNil rfl rfl (f := 49) (args := [.v (.int .i64 4)]) (v := .v (.bool true)) (by kernel_rfl) (by kernel_rfl) (by kernel_rfl)
    · exact retV (val := fun _ => 8) (F := []) holds_nil (tab := []) tabNil rfl rfl (f := 49) (args := [.v (.int .i64 8)]) (v := .v (.bool true)) (by kernel_rfl) (by kernel_rfl) (by kernel_rfl)
    · exact retV (val := fun _ => 16) (F := []) holds_nil (tab := []) tabNil rfl rfl (f := 49) (args := [.v (.int .i64 16)]) (v := .v (.bool true)) (by kernel_rfl) (by kernel_rfl) (by kernel_rfl)
    · exact retV (val := fun _ => 32) (F := []) holds_nil (tab := []) tabNil rfl rfl (f := 49) (args := [.v (.int .i64 32)]) (v := .v (.bool true)) (by kernel_rfl) (by kernel_rfl) (by kernel_rfl)
  · have h' := h
    unfold isSz at h'
    have hF : Holds (fun _ => n) [.ne (.a 0) 0, .ne (.a 0) 1, .ne (.a 0) 2, .ne (.a 0) 4, .ne (.a 0) 8, .ne (.a 0) 16, .ne (.a 0) 32] :=
      holds_cons (show n ≠ 0 by omega) (holds_cons (show n ≠ 1 by omega) (holds_cons (show n ≠ 2 by omega) (holds_cons (show n ≠ 4 by omega) (holds_cons (show n ≠ 8 by omega) (holds_cons (show n ≠ 16 by omega) (holds_cons (show n ≠ 32 by omega) holds_nil))))))
    have k := retV (val := fun _ => n) hF (tab := []) tabNil rfl rfl (f := 49) (args := [.sx .i64 (.a 0)]) (v := .v (.bool false)) (by kernel_rfl) (by kernel_rfl) (by kernel_rfl)
    have e : ([0, 1, 2, 4, 8, 16, 32].any (fun m => n == m)) = false := by
      simp only [List.any_cons, List.any_nil, Bool.or_false, Bool.or_eq_false_iff, beq_eq_false_iff_ne]
      omega
    rw [e]
    exact k

noncomputable abbrev szO [Syms] : Caller := pureO 49 (inRes [0, 1, 2, 4, 8, 16, 32])

theorem szO_ok [Syms] : CallerOK Try.prog szO := inO_sound (by kernel_rfl) sized49

noncomputable def isV (u : Option (AV × AS)) (v : AV) : Bool := match u, v with | some (.tup xs, _), .tup ys => avEqs xs ys | some (x, _), y => avEq x y | none, _ => false

theorem isV_eq {u : Option (AV × AS)} {v : AV} (h : isV u v = true) : ∃ S, u = some (v, S) := by
  unfold isV at h
  split at h
  · rw [avEqs_sound _ _ h]; exact ⟨_, rfl⟩
  · rw [avEq_sound _ _ h]; exact ⟨_, rfl⟩
  · cases h

/-- A call of numbers that are known to be so. -/
theorem retC {val : Nat → Int} {F : List Fact} (h : Holds val F) {sla : Nat → Option Addr × Nat} {f : FuncId} {args : List AV} {v : AV} (ha : plains args = true) (hp : plain v = true)
    (hg : isV (@runO (symsOf val F h sla) Try.prog (orElse (@sc (symsOf val F h sla)) (@szO (symsOf val F h sla))) 1000 f args []) v = true) : Ret Try.prog f (@concs (nameS val sla) E0 args) (@conc (nameS val sla) E0 v) := by
  intro w
  letI I := symsOf val F h sla
  obtain ⟨S', hr⟩ := isV_eq hg
  have k := runO_sound (P := Try.prog) (@orElse_sound Try.prog (symsOf val F h sla) _ _ (@scO (symsOf val F h sla)) (@szO_ok (symsOf val F h sla))) mixB hr (plains_wf _ ha) rfl E0 w (noOut E0 w)
  rw [concs_val (I := nameS val sla) (J := symsOf val F h sla) rfl rfl, conc_val (I := nameS val sla) (J := symsOf val F h sla) rfl rfl]
  refine k.mono fun e w' he => ?_
  obtain ⟨E', rfl, hb⟩ := he
  exact ⟨congrArg Ending.returned (plain_conc (E := E') (E' := E0) _ hp), hb⟩

def argK (k : Nat) : AV := .agg [ci k, a 41, a 42, a 43, a 44, a 45, a 46, a 47, a 48, a 49, a 50]

def memK : AV := .agg [a 43, a 44, a 45, a 46, a 47, a 48, a 49]

/-- No such operand. -/
def BadK (k : Nat) (val : Nat → Int) (sla : Nat → Option Addr × Nat) : Prop := ∃ e : Int, e ≠ 0 ∧ Ret Try.prog 30 (@concs (nameS val sla) E0 [argK k]) (.int .i64 e)

/-- It may be, and is best written so. -/
def FineM (val : Nat → Int) (sla : Nat → Option Addr × Nat) (v : AV) : Prop := Ret Try.prog 30 (@concs (nameS val sla) E0 [argK 2]) (.int .i64 0) ∧ Ret Try.prog 25 (@concs (nameS val sla) E0 [memK]) (@conc (nameS val sla) E0 (.tup [v, ci 0]))

def FineR (val : Nat → Int) (sla : Nat → Option Addr × Nat) : Prop := Ret Try.prog 30 (@concs (nameS val sla) E0 [argK 1]) (.int .i64 0)

/-- What is best. -/
def sameM : AV := memK

def baseM : AV := .agg [a 45, a 46, ci 0, ci 0, ci 0, a 48, a 49]

def swapM : AV := .agg [a 45, a 46, a 43, a 44, a 47, a 48, a 49]

theorem badL {k : Nat} {val : Nat → Int} {sla : Nat → Option Addr × Nat} {F : List Fact} (h : Holds val F) (e : Nat) (he : (e : Int) ≠ 0) (hg : isV (@runO (symsOf val F h sla) Try.prog (orElse (@sc (symsOf val F h sla)) (@szO (symsOf val F h sla))) 1000 30 [argK k] []) (ci e) = true) : BadK k val sla :=
  ⟨e, he, retC h rfl rfl hg⟩

theorem fineL {val : Nat → Int} {sla : Nat → Option Addr × Nat} {F : List Fact} (h : Holds val F) (v : AV) (hp : plain v = true) (hg : isV (@runO (symsOf val F h sla) Try.prog (orElse (@sc (symsOf val F h sla)) (@szO (symsOf val F h sla))) 1000 30 [argK 2] []) (ci 0) = true)
    (hg' : isV (@runO (symsOf val F h sla) Try.prog (orElse (@sc (symsOf val F h sla)) (@szO (symsOf val F h sla))) 1000 25 [memK] []) (.tup [v, ci 0]) = true) : FineM val sla v :=
  ⟨retC h rfl rfl hg, retC h rfl (by show bAnd (plain v) true = true; rw [hp]; rfl) hg'⟩

theorem fineRL {val : Nat → Int} {sla : Nat → Option Addr × Nat} {F : List Fact} (h : Holds val F) (hg : isV (@runO (symsOf val F h sla) Try.prog (orElse (@sc (symsOf val F h sla)) (@szO (symsOf val F h sla))) 1000 30 [argK 1] []) (ci 0) = true) : FineR val sla := retC h rfl rfl hg

/-- What is known of those that may be. -/
def fineF : List (List Fact × AV) := [([.is (.a 47) 0, .is (.a 46) 0, .is (.a 45) 0, .is (.a 44) 0, .is (.a 43) 0, .at (.or (.eq (.a 49) (.c 0)) (.or (.eq (.a 49) (.c 1)) (.or (.eq (.a 49) (.c 2)) (.or (.eq (.a 49) (.c 4)) (.or (.eq (.a 49) (.c 8)) (.or (.eq (.a 49) (.c 16)) (.or (.eq (.a 49) (.c 32)) .ff))))))) true, .le (.a 48) 2147483647, .ge (.a 48) (-2147483648)], sameM),
  ([.is (.a 47) 1, .is (.a 46) 4, .at (.or (.eq (.a 47) (.c 1)) (.or (.eq (.a 47) (.c 2)) (.or (.eq (.a 47) (.c 4)) (.or (.eq (.a 47) (.c 8)) .ff)))) true, .le (.a 46) 15, .ge (.a 46) 0, .is (.a 45) 5, .ne (.a 45) 0, .is (.a 44) 0, .is (.a 43) 0, .at (.or (.eq (.a 49) (.c 0)) (.or (.eq (.a 49) (.c 1)) (.or (.eq (.a 49) (.c 2)) (.or (.eq (.a 49) (.c 4)) (.or (.eq (.a 49) (.c 8)) (.or (.eq (.a 49) (.c 16)) (.or (.eq (.a 49) (.c 32)) .ff))))))) true, .le (.a 48) 2147483647, .ge (.a 48) (-2147483648)], baseM),
  ([.is (.a 47) 1, .ne (.a 46) 4, .at (.or (.eq (.a 47) (.c 1)) (.or (.eq (.a 47) (.c 2)) (.or (.eq (.a 47) (.c 4)) (.or (.eq (.a 47) (.c 8)) .ff)))) true, .le (.a 46) 15, .ge (.a 46) 0, .is (.a 45) 5, .ne (.a 45) 0, .is (.a 44) 0, .is (.a 43) 0, .at (.or (.eq (.a 49) (.c 0)) (.or (.eq (.a 49) (.c 1)) (.or (.eq (.a 49) (.c 2)) (.or (.eq (.a 49) (.c 4)) (.or (.eq (.a 49) (.c 8)) (.or (.eq (.a 49) (.c 16)) (.or (.eq (.a 49) (.c 32)) .ff))))))) true, .le (.a 48) 2147483647, .ge (.a 48) (-2147483648)], baseM),
  ([.ne (.a 47) 1, .ne (.a 46) 4, .at (.or (.eq (.a 47) (.c 1)) (.or (.eq (.a 47) (.c 2)) (.or (.eq (.a 47) (.c 4)) (.or (.eq (.a 47) (.c 8)) .ff)))) true, .le (.a 46) 15, .ge (.a 46) 0, .is (.a 45) 5, .ne (.a 45) 0, .is (.a 44) 0, .is (.a 43) 0, .at (.or (.eq (.a 49) (.c 0)) (.or (.eq (.a 49) (.c 1)) (.or (.eq (.a 49) (.c 2)) (.or (.eq (.a 49) (.c 4)) (.or (.eq (.a 49) (.c 8)) (.or (.eq (.a 49) (.c 16)) (.or (.eq (.a 49) (.c 32)) .ff))))))) true, .le (.a 48) 2147483647, .ge (.a 48) (-2147483648)], sameM),
  ([.is (.a 47) 0, .is (.a 46) 0, .is (.a 45) 0, .is (.a 44) 0, .is (.a 43) 8, .ne (.a 43) 0, .at (.or (.eq (.a 49) (.c 0)) (.or (.eq (.a 49) (.c 1)) (.or (.eq (.a 49) (.c 2)) (.or (.eq (.a 49) (.c 4)) (.or (.eq (.a 49) (.c 8)) (.or (.eq (.a 49) (.c 16)) (.or (.eq (.a 49) (.c 32)) .ff))))))) true, .le (.a 48) 2147483647, .ge (.a 48) (-2147483648)], sameM),
  ([.is (.a 47) 0, .is (.a 46) 0, .is (.a 45) 0, .le (.a 44) 15, .ge (.a 44) 0, .is (.a 43) 5, .ne (.a 43) 8, .ne (.a 43) 0, .at (.or (.eq (.a 49) (.c 0)) (.or (.eq (.a 49) (.c 1)) (.or (.eq (.a 49) (.c 2)) (.or (.eq (.a 49) (.c 4)) (.or (.eq (.a 49) (.c 8)) (.or (.eq (.a 49) (.c 16)) (.or (.eq (.a 49) (.c 32)) .ff))))))) true, .le (.a 48) 2147483647, .ge (.a 48) (-2147483648)], sameM),
  ([.ne (.a 44) 4, .is (.a 47) 1, .is (.a 46) 4, .at (.or (.eq (.a 47) (.c 1)) (.or (.eq (.a 47) (.c 2)) (.or (.eq (.a 47) (.c 4)) (.or (.eq (.a 47) (.c 8)) .ff)))) true, .le (.a 46) 15, .ge (.a 46) 0, .is (.a 45) 5, .ne (.a 45) 0, .le (.a 44) 15, .ge (.a 44) 0, .is (.a 43) 5, .ne (.a 43) 8, .ne (.a 43) 0, .at (.or (.eq (.a 49) (.c 0)) (.or (.eq (.a 49) (.c 1)) (.or (.eq (.a 49) (.c 2)) (.or (.eq (.a 49) (.c 4)) (.or (.eq (.a 49) (.c 8)) (.or (.eq (.a 49) (.c 16)) (.or (.eq (.a 49) (.c 32)) .ff))))))) true, .le (.a 48) 2147483647, .ge (.a 48) (-2147483648)], swapM),
  ([.is (.a 47) 1, .ne (.a 46) 4, .at (.or (.eq (.a 47) (.c 1)) (.or (.eq (.a 47) (.c 2)) (.or (.eq (.a 47) (.c 4)) (.or (.eq (.a 47) (.c 8)) .ff)))) true, .le (.a 46) 15, .ge (.a 46) 0, .is (.a 45) 5, .ne (.a 45) 0, .le (.a 44) 15, .ge (.a 44) 0, .is (.a 43) 5, .ne (.a 43) 8, .ne (.a 43) 0, .at (.or (.eq (.a 49) (.c 0)) (.or (.eq (.a 49) (.c 1)) (.or (.eq (.a 49) (.c 2)) (.or (.eq (.a 49) (.c 4)) (.or (.eq (.a 49) (.c 8)) (.or (.eq (.a 49) (.c 16)) (.or (.eq (.a 49) (.c 32)) .ff))))))) true, .le (.a 48) 2147483647, .ge (.a 48) (-2147483648)], sameM),
  ([.ne (.a 47) 1, .ne (.a 46) 4, .at (.or (.eq (.a 47) (.c 1)) (.or (.eq (.a 47) (.c 2)) (.or (.eq (.a 47) (.c 4)) (.or (.eq (.a 47) (.c 8)) .ff)))) true, .le (.a 46) 15, .ge (.a 46) 0, .is (.a 45) 5, .ne (.a 45) 0, .le (.a 44) 15, .ge (.a 44) 0, .is (.a 43) 5, .ne (.a 43) 8, .ne (.a 43) 0, .at (.or (.eq (.a 49) (.c 0)) (.or (.eq (.a 49) (.c 1)) (.or (.eq (.a 49) (.c 2)) (.or (.eq (.a 49) (.c 4)) (.or (.eq (.a 49) (.c 8)) (.or (.eq (.a 49) (.c 16)) (.or (.eq (.a 49) (.c 32)) .ff))))))) true, .le (.a 48) 2147483647, .ge (.a 48) (-2147483648)], sameM)]

theorem fineF_0 : ([.is (.a 47) 0, .is (.a 46) 0, .is (.a 45) 0, .is (.a 44) 0, .is (.a 43) 0, .at (.or (.eq (.a 49) (.c 0)) (.or (.eq (.a 49) (.c 1)) (.or (.eq (.a 49) (.c 2)) (.or (.eq (.a 49) (.c 4)) (.or (.eq (.a 49) (.c 8)) (.or (.eq (.a 49) (.c 16)) (.or (.eq (.a 49) (.c 32)) .ff))))))) true, .le (.a 48) 2147483647, .ge (.a 48) (-2147483648)], sameM) ∈ fineF := by simp [fineF]

theorem fineF_1 : ([.is (.a 47) 1, .is (.a 46) 4, .at (.or (.eq (.a 47) (.c 1)) (.or (.eq (.a 47) (.c 2)) (.or (.eq (.a 47) (.c 4)) (.or (.eq (.a 47) (.c 8)) .ff)))) true, .le (.a 46) 15, .ge (.a 46) 0, .is (.a 45) 5, .ne (.a 45) 0, .is (.a 44) 0, .is (.a 43) 0, .at (.or (.eq (.a 49) (.c 0)) (.or (.eq (.a 49) (.c 1)) (.or (.eq (.a 49) (.c 2)) (.or (.eq (.a 49) (.c 4)) (.or (.eq (.a 49) (.c 8)) (.or (.eq (.a 49) (.c 16)) (.or (.eq (.a 49) (.c 32)) .ff))))))) true, .le (.a 48) 2147483647, .ge (.a 48) (-2147483648)], baseM) ∈ fineF := by simp [fineF]

theorem fineF_2 : ([.is (.a 47) 1, .ne (.a 46) 4, .at (.or (.eq (.a 47) (.c 1)) (.or (.eq (.a 47) (.c 2)) (.or (.eq (.a 47) (.c 4)) (.or (.eq (.a 47) (.c 8)) .ff)))) true, .le (.a 46) 15, .ge (.a 46) 0, .is (.a 45) 5, .ne (.a 45) 0, .is (.a 44) 0, .is (.a 43) 0, .at (.or (.eq (.a 49) (.c 0)) (.or (.eq (.a 49) (.c 1)) (.or (.eq (.a 49) (.c 2)) (.or (.eq (.a 49) (.c 4)) (.or (.eq (.a 49) (.c 8)) (.or (.eq (.a 49) (.c 16)) (.or (.eq (.a 49) (.c 32)) .ff))))))) true, .le (.a 48) 2147483647, .ge (.a 48) (-2147483648)], baseM) ∈ fineF := by simp [fineF]

theorem fineF_3 : ([.ne (.a 47) 1, .ne (.a 46) 4, .at (.or (.eq (.a 47) (.c 1)) (.or (.eq (.a 47) (.c 2)) (.or (.eq (.a 47) (.c 4)) (.or (.eq (.a 47) (.c 8)) .ff)))) true, .le (.a 46) 15, .ge (.a 46) 0, .is (.a 45) 5, .ne (.a 45) 0, .is (.a 44) 0, .is (.a 43) 0, .at (.or (.eq (.a 49) (.c 0)) (.or (.eq (.a 49) (.c 1)) (.or (.eq (.a 49) (.c 2)) (.or (.eq (.a 49) (.c 4)) (.or (.eq (.a 49) (.c 8)) (.or (.eq (.a 49) (.c 16)) (.or (.eq (.a 49) (.c 32)) .ff))))))) true, .le (.a 48) 2147483647, .ge (.a 48) (-2147483648)], sameM) ∈ fineF := by simp [fineF]

theorem fineF_4 : ([.is (.a 47) 0, .is (.a 46) 0, .is (.a 45) 0, .is (.a 44) 0, .is (.a 43) 8, .ne (.a 43) 0, .at (.or (.eq (.a 49) (.c 0)) (.or (.eq (.a 49) (.c 1)) (.or (.eq (.a 49) (.c 2)) (.or (.eq (.a 49) (.c 4)) (.or (.eq (.a 49) (.c 8)) (.or (.eq (.a 49) (.c 16)) (.or (.eq (.a 49) (.c 32)) .ff))))))) true, .le (.a 48) 2147483647, .ge (.a 48) (-2147483648)], sameM) ∈ fineF := by simp [fineF]

theorem fineF_5 : ([.is (.a 47) 0, .is (.a 46) 0, .is (.a 45) 0, .le (.a 44) 15, .ge (.a 44) 0, .is (.a 43) 5, .ne (.a 43) 8, .ne (.a 43) 0, .at (.or (.eq (.a 49) (.c 0)) (.or (.eq (.a 49) (.c 1)) (.or (.eq (.a 49) (.c 2)) (.or (.eq (.a 49) (.c 4)) (.or (.eq (.a 49) (.c 8)) (.or (.eq (.a 49) (.c 16)) (.or (.eq (.a 49) (.c 32)) .ff))))))) true, .le (.a 48) 2147483647, .ge (.a 48) (-2147483648)], sameM) ∈ fineF := by simp [fineF]

theorem fineF_6 : ([.ne (.a 44) 4, .is (.a 47) 1, .is (.a 46) 4, .at (.or (.eq (.a 47) (.c 1)) (.or (.eq (.a 47) (.c 2)) (.or (.eq (.a 47) (.c 4)) (.or (.eq (.a 47) (.c 8)) .ff)))) true, .le (.a 46) 15, .ge (.a 46) 0, .is (.a 45) 5, .ne (.a 45) 0, .le (.a 44) 15, .ge (.a 44) 0, .is (.a 43) 5, .ne (.a 43) 8, .ne (.a 43) 0, .at (.or (.eq (.a 49) (.c 0)) (.or (.eq (.a 49) (.c 1)) (.or (.eq (.a 49) (.c 2)) (.or (.eq (.a 49) (.c 4)) (.or (.eq (.a 49) (.c 8)) (.or (.eq (.a 49) (.c 16)) (.or (.eq (.a 49) (.c 32)) .ff))))))) true, .le (.a 48) 2147483647, .ge (.a 48) (-2147483648)], swapM) ∈ fineF := by simp [fineF]

theorem fineF_7 : ([.is (.a 47) 1, .ne (.a 46) 4, .at (.or (.eq (.a 47) (.c 1)) (.or (.eq (.a 47) (.c 2)) (.or (.eq (.a 47) (.c 4)) (.or (.eq (.a 47) (.c 8)) .ff)))) true, .le (.a 46) 15, .ge (.a 46) 0, .is (.a 45) 5, .ne (.a 45) 0, .le (.a 44) 15, .ge (.a 44) 0, .is (.a 43) 5, .ne (.a 43) 8, .ne (.a 43) 0, .at (.or (.eq (.a 49) (.c 0)) (.or (.eq (.a 49) (.c 1)) (.or (.eq (.a 49) (.c 2)) (.or (.eq (.a 49) (.c 4)) (.or (.eq (.a 49) (.c 8)) (.or (.eq (.a 49) (.c 16)) (.or (.eq (.a 49) (.c 32)) .ff))))))) true, .le (.a 48) 2147483647, .ge (.a 48) (-2147483648)], sameM) ∈ fineF := by simp [fineF]

theorem fineF_8 : ([.ne (.a 47) 1, .ne (.a 46) 4, .at (.or (.eq (.a 47) (.c 1)) (.or (.eq (.a 47) (.c 2)) (.or (.eq (.a 47) (.c 4)) (.or (.eq (.a 47) (.c 8)) .ff)))) true, .le (.a 46) 15, .ge (.a 46) 0, .is (.a 45) 5, .ne (.a 45) 0, .le (.a 44) 15, .ge (.a 44) 0, .is (.a 43) 5, .ne (.a 43) 8, .ne (.a 43) 0, .at (.or (.eq (.a 49) (.c 0)) (.or (.eq (.a 49) (.c 1)) (.or (.eq (.a 49) (.c 2)) (.or (.eq (.a 49) (.c 4)) (.or (.eq (.a 49) (.c 8)) (.or (.eq (.a 49) (.c 16)) (.or (.eq (.a 49) (.c 32)) .ff))))))) true, .le (.a 48) 2147483647, .ge (.a 48) (-2147483648)], sameM) ∈ fineF := by simp [fineF]

/-- What an operand is. -/
def AnyM (val : Nat → Int) (sla : Nat → Option Addr × Nat) : Prop := BadK 2 val sla ∨ ∃ (F : List Fact) (v : AV), Holds val F ∧ FineM val sla v ∧ (F, v) ∈ fineF

theorem anyM (val : Nat → Int) (sla : Nat → Option Addr × Nat) : AnyM val sla :=
  have h : Holds val [] := holds_nil
  by_split (.lt (.a 48) (.c (-2147483648))) h (fun h => .inl (badL h 5 (by decide) (by kernel_rfl))) (fun h => by_split (.lt (.c 2147483647) (.a 48)) h (fun h => .inl (badL h 5 (by decide) (by kernel_rfl))) (fun h => by_split (.or (.eq (.a 49) (.c 0)) (.or (.eq (.a 49) (.c 1)) (.or (.eq (.a 49) (.c 2)) (.or (.eq (.a 49) (.c 4)) (.or (.eq (.a 49) (.c 8)) (.or (.eq (.a 49) (.c 16)) (.or (.eq (.a 49) (.c 32)) .ff))))))) h (fun h => by_split (.eq (.a 43) (.c 0)) h (fun h => by_split (.eq (.a 44) (.c 0)) h (fun h => by_split (.eq (.a 45) (.c 0)) h (fun h => by_split (.eq (.a 46) (.c 0)) h (fun h => by_split (.eq (.a 47) (.c 0)) h (fun h => .inr ⟨_, sameM, h, fineL h sameM rfl (by kernel_rfl) (by kernel_rfl), fineF_0⟩) (fun h => .inl (badL h 2 (by decide) (by kernel_rfl)))) (fun h => .inl (badL h 2 (by decide) (by kernel_rfl)))) (fun h => by_split (.eq (.a 45) (.c 5)) h (fun h => by_split (.le (.c 0) (.a 46)) h (fun h => by_split (.lt (.a 46) (.c 16)) h (fun h => by_split (.or (.eq (.a 47) (.c 1)) (.or (.eq (.a 47) (.c 2)) (.or (.eq (.a 47) (.c 4)) (.or (.eq (.a 47) (.c 8)) .ff)))) h (fun h => by_split (.eq (.a 46) (.c 4)) h (fun h => by_split (.eq (.a 47) (.c 1)) h (fun h => .inr ⟨_, baseM, h, fineL h baseM rfl (by kernel_rfl) (by kernel_rfl), fineF_1⟩) (fun h => .inl (badL h 2 (by decide) (by kernel_rfl)))) (fun h => by_split (.eq (.a 47) (.c 1)) h (fun h => .inr ⟨_, baseM, h, fineL h baseM rfl (by kernel_rfl) (by kernel_rfl), fineF_2⟩) (fun h => .inr ⟨_, sameM, h, fineL h sameM rfl (by kernel_rfl) (by kernel_rfl), fineF_3⟩))) (fun h => .inl (badL h 2 (by decide) (by kernel_rfl)))) (fun h => .inl (badL h 2 (by decide) (by kernel_rfl)))) (fun h => .inl (badL h 2 (by decide) (by kernel_rfl)))) (fun h => .inl (badL h 2 (by decide) (by kernel_rfl))))) (fun h => .inl (badL h 2 (by decide) (by kernel_rfl)))) (fun h => by_split (.eq (.a 43) (.c 8)) h (fun h => by_split (.eq (.a 44) (.c 0)) h (fun h => by_split (.eq (.a 45) (.c 0)) h (fun h => by_split (.eq (.a 46) (.c 0)) h (fun h => by_split (.eq (.a 47) (.c 0)) h (fun h => .inr ⟨_, sameM, h, fineL h sameM rfl (by kernel_rfl) (by kernel_rfl), fineF_4⟩) (fun h => .inl (badL h 2 (by decide) (by kernel_rfl)))) (fun h => .inl (badL h 2 (by decide) (by kernel_rfl)))) (fun h => by_split (.eq (.a 45) (.c 5)) h (fun h => by_split (.le (.c 0) (.a 46)) h (fun h => by_split (.lt (.a 46) (.c 16)) h (fun h => by_split (.or (.eq (.a 47) (.c 1)) (.or (.eq (.a 47) (.c 2)) (.or (.eq (.a 47) (.c 4)) (.or (.eq (.a 47) (.c 8)) .ff)))) h (fun h => .inl (badL h 2 (by decide) (by kernel_rfl))) (fun h => .inl (badL h 2 (by decide) (by kernel_rfl)))) (fun h => .inl (badL h 2 (by decide) (by kernel_rfl)))) (fun h => .inl (badL h 2 (by decide) (by kernel_rfl)))) (fun h => .inl (badL h 2 (by decide) (by kernel_rfl))))) (fun h => .inl (badL h 2 (by decide) (by kernel_rfl)))) (fun h => by_split (.eq (.a 43) (.c 5)) h (fun h => by_split (.le (.c 0) (.a 44)) h (fun h => by_split (.lt (.a 44) (.c 16)) h (fun h => by_split (.eq (.a 45) (.c 0)) h (fun h => by_split (.eq (.a 46) (.c 0)) h (fun h => by_split (.eq (.a 47) (.c 0)) h (fun h => .inr ⟨_, sameM, h, fineL h sameM rfl (by kernel_rfl) (by kernel_rfl), fineF_5⟩) (fun h => .inl (badL h 2 (by decide) (by kernel_rfl)))) (fun h => .inl (badL h 2 (by decide) (by kernel_rfl)))) (fun h => by_split (.eq (.a 45) (.c 5)) h (fun h => by_split (.le (.c 0) (.a 46)) h (fun h => by_split (.lt (.a 46) (.c 16)) h (fun h => by_split (.or (.eq (.a 47) (.c 1)) (.or (.eq (.a 47) (.c 2)) (.or (.eq (.a 47) (.c 4)) (.or (.eq (.a 47) (.c 8)) .ff)))) h (fun h => by_split (.eq (.a 46) (.c 4)) h (fun h => by_split (.eq (.a 47) (.c 1)) h (fun h => by_split (.eq (.a 44) (.c 4)) h (fun h => .inl (badL h 2 (by decide) (by kernel_rfl))) (fun h => .inr ⟨_, swapM, h, fineL h swapM rfl (by kernel_rfl) (by kernel_rfl), fineF_6⟩)) (fun h => .inl (badL h 2 (by decide) (by kernel_rfl)))) (fun h => by_split (.eq (.a 47) (.c 1)) h (fun h => .inr ⟨_, sameM, h, fineL h sameM rfl (by kernel_rfl) (by kernel_rfl), fineF_7⟩) (fun h => .inr ⟨_, sameM, h, fineL h sameM rfl (by kernel_rfl) (by kernel_rfl), fineF_8⟩))) (fun h => .inl (badL h 2 (by decide) (by kernel_rfl)))) (fun h => .inl (badL h 2 (by decide) (by kernel_rfl)))) (fun h => .inl (badL h 2 (by decide) (by kernel_rfl)))) (fun h => .inl (badL h 2 (by decide) (by kernel_rfl))))) (fun h => .inl (badL h 2 (by decide) (by kernel_rfl)))) (fun h => .inl (badL h 2 (by decide) (by kernel_rfl)))) (fun h => .inl (badL h 2 (by decide) (by kernel_rfl)))))) (fun h => .inl (badL h 2 (by decide) (by kernel_rfl)))))

/-- A register that there is. -/
def RegIs (val : Nat → Int) : Prop := (val 41 = 2 ∧ 4 ≤ val 42 ∧ val 42 ≤ 7) ∨ ((val 41 = 1 ∨ val 41 = 3 ∨ val 41 = 4 ∨ val 41 = 5 ∨ val 41 = 6 ∨ val 41 = 7) ∧ 0 ≤ val 42 ∧ val 42 ≤ 15)

theorem regF_0 {val : Nat → Int} (h : Holds val [.le (.a 42) 7, .ge (.a 42) 4, .is (.a 41) 2]) : RegIs val := by
  have e1 : val 41 = 2 := h (.is (.a 41) 2) (by simp)
  have e2 : 4 ≤ val 42 := h (.ge (.a 42) 4) (by simp)
  have e3 : val 42 ≤ 7 := h (.le (.a 42) 7) (by simp)
  unfold RegIs
  omega

theorem regF_1 {val : Nat → Int} (h : Holds val [.le (.a 42) 15, .ge (.a 42) 0, .is (.a 41) 1, .ne (.a 41) 8, .ne (.a 41) 2]) : RegIs val := by
  have e1 : val 41 = 1 := h (.is (.a 41) 1) (by simp)
  have e2 : 0 ≤ val 42 := h (.ge (.a 42) 0) (by simp)
  have e3 : val 42 ≤ 15 := h (.le (.a 42) 15) (by simp)
  unfold RegIs
  omega

theorem regF_2 {val : Nat → Int} (h : Holds val [.le (.a 42) 15, .ge (.a 42) 0, .is (.a 41) 3, .ne (.a 41) 1, .ne (.a 41) 8, .ne (.a 41) 2]) : RegIs val := by
  have e1 : val 41 = 3 := h (.is (.a 41) 3) (by simp)
  have e2 : 0 ≤ val 42 := h (.ge (.a 42) 0) (by simp)
  have e3 : val 42 ≤ 15 := h (.le (.a 42) 15) (by simp)
  unfold RegIs
  omega

theorem regF_3 {val : Nat → Int} (h : Holds val [.le (.a 42) 15, .ge (.a 42) 0, .is (.a 41) 4, .ne (.a 41) 3, .ne (.a 41) 1, .ne (.a 41) 8, .ne (.a 41) 2]) : RegIs val := by
  have e1 : val 41 = 4 := h (.is (.a 41) 4) (by simp)
  have e2 : 0 ≤ val 42 := h (.ge (.a 42) 0) (by simp)
  have e3 : val 42 ≤ 15 := h (.le (.a 42) 15) (by simp)
  unfold RegIs
  omega

theorem regF_4 {val : Nat → Int} (h : Holds val [.le (.a 42) 15, .ge (.a 42) 0, .is (.a 41) 5, .ne (.a 41) 4, .ne (.a 41) 3, .ne (.a 41) 1, .ne (.a 41) 8, .ne (.a 41) 2]) : RegIs val := by
  have e1 : val 41 = 5 := h (.is (.a 41) 5) (by simp)
  have e2 : 0 ≤ val 42 := h (.ge (.a 42) 0) (by simp)
  have e3 : val 42 ≤ 15 := h (.le (.a 42) 15) (by simp)
  unfold RegIs
  omega

theorem regF_5 {val : Nat → Int} (h : Holds val [.le (.a 42) 15, .ge (.a 42) 0, .is (.a 41) 6, .ne (.a 41) 5, .ne (.a 41) 4, .ne (.a 41) 3, .ne (.a 41) 1, .ne (.a 41) 8, .ne (.a 41) 2]) : RegIs val := by
  have e1 : val 41 = 6 := h (.is (.a 41) 6) (by simp)
  have e2 : 0 ≤ val 42 := h (.ge (.a 42) 0) (by simp)
  have e3 : val 42 ≤ 15 := h (.le (.a 42) 15) (by simp)
  unfold RegIs
  omega

theorem regF_6 {val : Nat → Int} (h : Holds val [.le (.a 42) 15, .ge (.a 42) 0, .is (.a 41) 7, .ne (.a 41) 6, .ne (.a 41) 5, .ne (.a 41) 4, .ne (.a 41) 3, .ne (.a 41) 1, .ne (.a 41) 8, .ne (.a 41) 2]) : RegIs val := by
  have e1 : val 41 = 7 := h (.is (.a 41) 7) (by simp)
  have e2 : 0 ≤ val 42 := h (.ge (.a 42) 0) (by simp)
  have e3 : val 42 ≤ 15 := h (.le (.a 42) 15) (by simp)
  unfold RegIs
  omega

theorem anyR (val : Nat → Int) (sla : Nat → Option Addr × Nat) : BadK 1 val sla ∨ (FineR val sla ∧ RegIs val) :=
  have h : Holds val [] := holds_nil
  by_split (.eq (.a 41) (.c 2)) h (fun h => by_split (.le (.c 4) (.a 42)) h (fun h => by_split (.lt (.a 42) (.c 8)) h (fun h => .inr ⟨fineRL h (by kernel_rfl), regF_0 h⟩) (fun h => .inl (badL h 2 (by decide) (by kernel_rfl)))) (fun h => .inl (badL h 2 (by decide) (by kernel_rfl)))) (fun h => by_split (.eq (.a 41) (.c 8)) h (fun h => by_split (.le (.c 0) (.a 42)) h (fun h => by_split (.lt (.a 42) (.c 1)) h (fun h => .inl (badL h 2 (by decide) (by kernel_rfl))) (fun h => .inl (badL h 2 (by decide) (by kernel_rfl)))) (fun h => .inl (badL h 2 (by decide) (by kernel_rfl)))) (fun h => by_split (.eq (.a 41) (.c 1)) h (fun h => by_split (.le (.c 0) (.a 42)) h (fun h => by_split (.lt (.a 42) (.c 16)) h (fun h => .inr ⟨fineRL h (by kernel_rfl), regF_1 h⟩) (fun h => .inl (badL h 2 (by decide) (by kernel_rfl)))) (fun h => .inl (badL h 2 (by decide) (by kernel_rfl)))) (fun h => by_split (.eq (.a 41) (.c 3)) h (fun h => by_split (.le (.c 0) (.a 42)) h (fun h => by_split (.lt (.a 42) (.c 16)) h (fun h => .inr ⟨fineRL h (by kernel_rfl), regF_2 h⟩) (fun h => .inl (badL h 2 (by decide) (by kernel_rfl)))) (fun h => .inl (badL h 2 (by decide) (by kernel_rfl)))) (fun h => by_split (.eq (.a 41) (.c 4)) h (fun h => by_split (.le (.c 0) (.a 42)) h (fun h => by_split (.lt (.a 42) (.c 16)) h (fun h => .inr ⟨fineRL h (by kernel_rfl), regF_3 h⟩) (fun h => .inl (badL h 2 (by decide) (by kernel_rfl)))) (fun h => .inl (badL h 2 (by decide) (by kernel_rfl)))) (fun h => by_split (.eq (.a 41) (.c 5)) h (fun h => by_split (.le (.c 0) (.a 42)) h (fun h => by_split (.lt (.a 42) (.c 16)) h (fun h => .inr ⟨fineRL h (by kernel_rfl), regF_4 h⟩) (fun h => .inl (badL h 2 (by decide) (by kernel_rfl)))) (fun h => .inl (badL h 2 (by decide) (by kernel_rfl)))) (fun h => by_split (.eq (.a 41) (.c 6)) h (fun h => by_split (.le (.c 0) (.a 42)) h (fun h => by_split (.lt (.a 42) (.c 16)) h (fun h => .inr ⟨fineRL h (by kernel_rfl), regF_5 h⟩) (fun h => .inl (badL h 2 (by decide) (by kernel_rfl)))) (fun h => .inl (badL h 2 (by decide) (by kernel_rfl)))) (fun h => by_split (.eq (.a 41) (.c 7)) h (fun h => by_split (.le (.c 0) (.a 42)) h (fun h => by_split (.lt (.a 42) (.c 16)) h (fun h => .inr ⟨fineRL h (by kernel_rfl), regF_6 h⟩) (fun h => .inl (badL h 2 (by decide) (by kernel_rfl)))) (fun h => .inl (badL h 2 (by decide) (by kernel_rfl)))) (fun h => by_split (.le (.c 0) (.a 42)) h (fun h => .inl (badL h 2 (by decide) (by kernel_rfl))) (fun h => .inl (badL h 2 (by decide) (by kernel_rfl)))))))))))

theorem lowAny (c n : Int) (h : (c = 2 ∧ 4 ≤ n ∧ n ≤ 7) ∨ ((c = 1 ∨ c = 3 ∨ c = 4 ∨ c = 5 ∨ c = 6 ∨ c = 7) ∧ 0 ≤ n ∧ n ≤ 15)) : Ret Try.prog 32 [.agg #[.int .i64 c, .int .i64 n]] (.int .i64 (n % 8)) := by
  have h0 : 0 ≤ n := by omega
  have key : Ret Try.prog 32 [.agg #[.int .i64 c, .int .i64 n]] (.int .i64 (n.tmod 8)) := by
    rcases h with ⟨rfl, h1, h2⟩ | ⟨h, h1, h2⟩
    · exact retV (val := fun _ => n) (F := [.ge (.a 0) 4, .le (.a 0) 7]) (holds_cons h1 (holds_cons h2 holds_nil)) (tab := []) tabNil rfl rfl (f := 32) (args := [.agg [.v (.int .i64 2), .sx .i64 (.a 0)]]) (v := .sx .i64 (.rem (.a 0) 8)) (by kernel_rfl) (by kernel_rfl) (by kernel_rfl)
    · rcases h with rfl | rfl | rfl | rfl | rfl | rfl
      · exact retV (val := fun _ => n) (F := [.ge (.a 0) 0, .le (.a 0) 15]) (holds_cons h1 (holds_cons h2 holds_nil)) (tab := []) tabNil rfl rfl (f := 32) (args := [.agg [.v (.int .i64 1), .sx .i64 (.a 0)]]) (v := .sx .i64 (.rem (.a 0) 8)) (by kernel_rfl) (by kernel_rfl) (by kernel_rfl)
      · exact retV (val := fun _ => n) (F := [.ge (.a 0) 0, .le (.a 0) 15]) (holds_cons h1 (holds_cons h2 holds_nil)) (tab := []) tabNil rfl rfl (f := 32) (args := [.agg [.v (.int .i64 3), .sx .i64 (.a 0)]]) (v := .sx .i64 (.rem (.a 0) 8)) (by kernel_rfl) (by kernel_rfl) (by kernel_rfl)
      · exact retV (val := fun _ => n) (F := [.ge (.a 0) 0, .le (.a 0) 15]) (holds_cons h1 (holds_cons h2 holds_nil)) (tab := []) tabNil rfl rfl (f := 32) (args := [.agg [.v (.int .i64 4), .sx .i64 (.a 0)]]) (v := .sx .i64 (.rem (.a 0) 8)) (by kernel_rfl) (by kernel_rfl) (by kernel_rfl)
      · exact retV (val := fun _ => n) (F := [.ge (.a 0) 0, .le (.a 0) 15]) (holds_cons h1 (holds_cons h2 holds_nil)) (tab := []) tabNil rfl rfl (f := 32) (args := [.agg [.v (.int .i64 5), .sx .i64 (.a 0)]]) (v := .sx .i64 (.rem (.a 0) 8)) (by kernel_rfl) (by kernel_rfl) (by kernel_rfl)
      · exact retV (val := fun _ => n) (F := [.ge (.a 0) 0, .le (.a 0) 15]) (holds_cons h1 (holds_cons h2 holds_nil)) (tab := []) tabNil rfl rfl (f := 32) (args := [.agg [.v (.int .i64 6), .sx .i64 (.a 0)]]) (v := .sx .i64 (.rem (.a 0) 8)) (by kernel_rfl) (by kernel_rfl) (by kernel_rfl)
      · exact retV (val := fun _ => n) (F := [.ge (.a 0) 0, .le (.a 0) 15]) (holds_cons h1 (holds_cons h2 holds_nil)) (tab := []) tabNil rfl rfl (f := 32) (args := [.agg [.v (.int .i64 7), .sx .i64 (.a 0)]]) (v := .sx .i64 (.rem (.a 0) 8)) (by kernel_rfl) (by kernel_rfl) (by kernel_rfl)
  rw [Int.tmod_eq_emod_of_nonneg h0] at key
  exact key

theorem highAny (c n : Int) (h : (c = 2 ∧ 4 ≤ n ∧ n ≤ 7) ∨ ((c = 1 ∨ c = 3 ∨ c = 4 ∨ c = 5 ∨ c = 6 ∨ c = 7) ∧ 0 ≤ n ∧ n ≤ 15)) : Ret Try.prog 33 [.agg #[.int .i64 c, .int .i64 n]] (.int .i64 (n / 8)) := by
  have h0 : 0 ≤ n := by omega
  have h15 : n ≤ 15 := by omega
  have w : IntKind.i64.wrap (n.tdiv 8) = n / 8 := by rw [Int.tdiv_eq_ediv_of_nonneg h0, wrapI]; omega
  have key : Ret Try.prog 33 [.agg #[.int .i64 c, .int .i64 n]] (.int .i64 (IntKind.i64.wrap (n.tdiv 8))) := by
    rcases h with ⟨rfl, h1, h2⟩ | ⟨h, h1, h2⟩
    · have k := retV (val := fun _ => n) (F := [.ge (.a 0) 4, .le (.a 0) 7]) (holds_cons h1 (holds_cons h2 holds_nil)) (tab := []) tabNil rfl rfl (f := 33) (args := [.agg [.v (.int .i64 2), .sx .i64 (.a 0)]]) (v := .v (.int .i64 0)) (by kernel_rfl) (by kernel_rfl) (by kernel_rfl)
      rw [w, show n / 8 = 0 by omega]
      exact k
    · rcases h with rfl | rfl | rfl | rfl | rfl | rfl
      · exact retV (val := fun _ => n) (F := [.ge (.a 0) 0, .le (.a 0) 15]) (holds_cons h1 (holds_cons h2 holds_nil)) (tab := []) tabNil rfl rfl (f := 33) (args := [.agg [.v (.int .i64 1), .sx .i64 (.a 0)]]) (v := .sx .i64 (.wrap .i64 (.quo (.a 0) 8))) (by kernel_rfl) (by kernel_rfl) (by kernel_rfl)
      · exact retV (val := fun _ => n) (F := [.ge (.a 0) 0, .le (.a 0) 15]) (holds_cons h1 (holds_cons h2 holds_nil)) (tab := []) tabNil rfl rfl (f := 33) (args := [.agg [.v (.int .i64 3), .sx .i64 (.a 0)]]) (v := .sx .i64 (.wrap .i64 (.quo (.a 0) 8))) (by kernel_rfl) (by kernel_rfl) (by kernel_rfl)
      · exact retV (val := fun _ => n) (F := [.ge (.a 0) 0, .le (.a 0) 15]) (holds_cons h1 (holds_cons h2 holds_nil)) (tab := []) tabNil rfl rfl (f := 33) (args := [.agg [.v (.int .i64 4), .sx .i64 (.a 0)]]) (v := .sx .i64 (.wrap .i64 (.quo (.a 0) 8))) (by kernel_rfl) (by kernel_rfl) (by kernel_rfl)
      · exact retV (val := fun _ => n) (F := [.ge (.a 0) 0, .le (.a 0) 15]) (holds_cons h1 (holds_cons h2 holds_nil)) (tab := []) tabNil rfl rfl (f := 33) (args := [.agg [.v (.int .i64 5), .sx .i64 (.a 0)]]) (v := .sx .i64 (.wrap .i64 (.quo (.a 0) 8))) (by kernel_rfl) (by kernel_rfl) (by kernel_rfl)
      · exact retV (val := fun _ => n) (F := [.ge (.a 0) 0, .le (.a 0) 15]) (holds_cons h1 (holds_cons h2 holds_nil)) (tab := []) tabNil rfl rfl (f := 33) (args := [.agg [.v (.int .i64 6), .sx .i64 (.a 0)]]) (v := .sx .i64 (.wrap .i64 (.quo (.a 0) 8))) (by kernel_rfl) (by kernel_rfl) (by kernel_rfl)
      · exact retV (val := fun _ => n) (F := [.ge (.a 0) 0, .le (.a 0) 15]) (holds_cons h1 (holds_cons h2 holds_nil)) (tab := []) tabNil rfl rfl (f := 33) (args := [.agg [.v (.int .i64 7), .sx .i64 (.a 0)]]) (v := .sx .i64 (.wrap .i64 (.quo (.a 0) 8))) (by kernel_rfl) (by kernel_rfl) (by kernel_rfl)
  rw [w] at key
  exact key

end Go.Proofs.Ytbenfglhomiocaa.Bak
