/-
  'MemSame': where a place is hangs on its canon alone.
-/
import Derived.Test.YtlegmdfceifkcaaMemW
namespace Go.Proofs.Ytlegmdfceifkcaa.Tab
open Go.Sim
set_option maxRecDepth 100000

abbrev regsO : AV := .os 0 0 16 30 0

noncomputable abbrev outs16 : List (Nat × List AV) := [(1, cellsFrom 8 16)]

/-- What is asked of a place: its canon, its error, where it is. -/
def specsO : List (FuncId × List AV × List Sh) := [(8, [nmA 0], [.g 0 7, .i 7]), (10, [nmA 0], [.i 7]), (16, [nmA 0, regsO, .sx .i64 (.a 7)], [.i 8, .i 9])]

/-- Where a canon is. -/
def addrF (val : Nat → Int) (Y : List Int) : Int :=
  IntKind.wrap .i64 ((if Y.getD 0 0 = 8 then val 7 else if Y.getD 0 0 = 5 then val (8 + (Y.getD 1 0).toNat) else 0) + (if Y.getD 2 0 = 5 then Y.getD 4 0 * val (8 + (Y.getD 3 0).toNat) else 0) + Y.getD 5 0)

noncomputable def atX [Syms] (x : SX) : SX :=
  match Syms.num x with
  | some (.ofNat n) => .a (8 + n)
  | _ => .at 8 x

noncomputable def addrX [Syms] (Y : List SX) : Option SX :=
  match Syms.num (Y.getD 0 (.c 0)), Syms.num (Y.getD 2 (.c 0)) with
  | some c, some d => some (.wrap .i64 (.add (.add (match iEq c 8 with | true => .a 7 | false => match iEq c 5 with | true => atX (Y.getD 1 (.c 0)) | false => .c 0)
      (match iEq d 5 with | true => .mul (nrm (Y.getD 4 (.c 0))) (atX (Y.getD 3 (.c 0))) | false => .c 0)) (Y.getD 5 (.c 0))))
  | _, _ => none

theorem atX_eval [Syms] (x : SX) : (atX x).eval Syms.val = Syms.val (8 + (x.eval Syms.val).toNat) := by
  unfold atX
  split
  · rename_i n h
    rw [Syms.numOK _ _ h]
    rfl
  · rfl

theorem addrX_eval [Syms] {Y : List SX} {A : SX} (h : addrX Y = some A) : A.eval Syms.val = addrF Syms.val (Y.map (SX.eval Syms.val)) := by
  unfold addrX at h
  split at h
  · rename_i c d hc hd
    cases h
    have e0 := Syms.numOK _ _ hc
    have e2 := Syms.numOK _ _ hd
    rw [getD_map_eval] at e0 e2
    simp only [SX.eval, addrF, e0, e2]
    congr 2
    · congr 1
      · split
        · rename_i h8; rw [if_pos (iEq_iff.1 h8)]; rfl
        · rename_i h8
          have h8' : c ≠ 8 := fun hc => by rw [iEq_iff.2 hc] at h8; cases h8
          rw [if_neg h8']
          split
          · rename_i h5; rw [if_pos (iEq_iff.1 h5), atX_eval, getD_map_eval]
          · rename_i h5
            have h5' : c ≠ 5 := fun hc => by rw [iEq_iff.2 hc] at h5; cases h5
            rw [if_neg h5']; rfl
      · split
        · rename_i h5; rw [if_pos (iEq_iff.1 h5)]; simp only [SX.eval, nrm_eval, atX_eval, getD_map_eval]
        · rename_i h5
          have h5' : d ≠ 5 := fun hc => by rw [iEq_iff.2 hc] at h5; cases h5
          rw [if_neg h5']; rfl
    · rw [getD_map_eval]
  · cases h

noncomputable def propX [Syms] (Y : List SX) : Bool :=
  match Syms.dec (.eq (Y.getD 7 (.c 0)) (.c 0)) with
  | some false => true
  | some true => bAnd (isTrue (Syms.dec (.eq (Y.getD 5 (.c 0)) (.a 5)))) (bAnd (isTrue (Syms.dec (.eq (Y.getD 6 (.c 0)) (.a 6)))) (bAnd (isTrue (Syms.dec (.eq (Y.getD 9 (.c 0)) (.c 0))))
      (match addrX Y with
       | some A => isTrue (Syms.dec (.eq (Y.getD 8 (.c 0)) A))
       | none => false)))
  | none => false

/-- What these say of a place. -/
def SameJ (val : Nat → Int) : Prop := ∃ Y : List Int, Y.length = 10 ∧ (∀ x ∈ specsO, RetO Try.prog x.1 x.2.1 outs16 sla0 val (shV x.2.2 Y)) ∧
  (Y.getD 7 0 = 0 → Y.getD 5 0 = val 5 ∧ Y.getD 6 0 = val 6 ∧ Y.getD 9 0 = 0 ∧ Y.getD 8 0 = addrF val Y)

theorem dec_eq [Syms] {x y : SX} (h : isTrue (Syms.dec (.eq x y)) = true) : x.eval Syms.val = y.eval Syms.val := by
  have := Syms.decOK _ _ (isTrue_iff h)
  simpa only [SB.eval, beq_iff_eq] using this

theorem leafSJ {val : Nat → Int} {F : List Fact} (h : Holds val F) (Y : List SX) (hY : Y.length = 10) (hg : @givesO (symsOf val F h sla0) Try.prog (@mo (symsOf val F h sla0)) 1000 outs16 Y specsO = true) (hp : @propX (symsOf val F h sla0) Y = true) : SameJ val := by
  refine ⟨Y.map (SX.eval val), by rw [List.length_map, hY], retO_all h (@moO (symsOf val F h sla0)) mix (by kernel_rfl) specsO ?_ hg, fun h0 => ?_⟩
  · intro x hx
    simp only [specsO, List.mem_cons, List.not_mem_nil, or_false] at hx
    rcases hx with rfl | rfl | rfl
    · exact plains_wf _ (by kernel_rfl)
    · exact plains_wf _ (by kernel_rfl)
    · exact ⟨plain_wf _ (by kernel_rfl), Nat.zero_lt_one, trivial, trivial⟩
  · letI I := symsOf val F h sla0
    unfold propX at hp
    split at hp
    · rename_i hd
      have := I.decOK _ _ hd
      simp only [SB.eval, beq_eq_false_iff_ne] at this
      exact absurd ((getD_map_eval val Y 7).trans h0) this
    · obtain ⟨h1, h2⟩ := bAnd_true hp
      obtain ⟨h3, h4⟩ := bAnd_true h2
      obtain ⟨h5, h6⟩ := bAnd_true h4
      split at h6
      · rename_i A hA
        refine ⟨?_, ?_, ?_, ?_⟩
        · rw [← getD_map_eval]; exact dec_eq h1
        · rw [← getD_map_eval]; exact dec_eq h3
        · rw [← getD_map_eval]; exact dec_eq h5
        · rw [← getD_map_eval]; exact (dec_eq h6).trans (addrX_eval hA)
      · cases h6
    · cases hp

/-- What Canon and Check say of a place. -/
def MemP (val : Nat → Int) : Prop := ∃ Y : List Int, Y.length = 8 ∧ (∀ x ∈ specs, Ret Try.prog x.1 [memV val 0] (shV x.2 Y)) ∧ (Y.getD 7 0 = 0 → Y.getD 5 0 = val 5 ∧ Y.getD 6 0 = val 6)

noncomputable def propP [Syms] (Y : List SX) : Bool :=
  match Syms.dec (.eq (Y.getD 7 (.c 0)) (.c 0)) with
  | some false => true
  | some true => bAnd (isTrue (Syms.dec (.eq (Y.getD 5 (.c 0)) (.a 5)))) (isTrue (Syms.dec (.eq (Y.getD 6 (.c 0)) (.a 6))))
  | none => false

theorem leafMP {val : Nat → Int} {F : List Fact} (h : Holds val F) (Y : List SX) (hY : Y.length = 8) (hg : @givesAll (symsOf val F h sla0) Try.prog (@mo (symsOf val F h sla0)) 1000 [nmA 0] Y specs = true) (hp : @propP (symsOf val F h sla0) Y = true) : MemP val := by
  letI I := symsOf val F h sla0
  refine ⟨Y.map (SX.eval val), by rw [List.length_map, hY], fun x hx => joint_of (Y := Y) (@moO (symsOf val F h sla0)) mix (by kernel_rfl) specs hg x hx, fun h0 => ?_⟩
  unfold propP at hp
  split at hp
  · rename_i hd
    have := I.decOK _ _ hd
    simp only [SB.eval, beq_eq_false_iff_ne] at this
    exact absurd ((getD_map_eval val Y 7).trans h0) this
  · obtain ⟨h1, h2⟩ := bAnd_true hp
    exact ⟨by rw [← getD_map_eval]; exact dec_eq h1, by rw [← getD_map_eval]; exact dec_eq h2⟩
  · cases hp

/-! The law. -/

abbrev xA (k : Nat) : AV := .sx .i64 (.a k)

abbrev canonG (u : Nat) : AV := .tup [nmA u, xA (u + 7)]

abbrev canonK (u p : Nat) : AV := .tup [.agg [xA u, xA (u + 1), xA (u + 2), xA (u + 3), xA (u + 4), xA (p + 5), xA (p + 6)], .v (.int .i64 0)]

def tG : List (FuncId × List AV × AV) := [(8, [nmA 0], canonG 40), (10, [nmA 0], xA 47), (8, [nmA 32], canonG 50), (10, [nmA 32], xA 57)]

def tO : List (FuncId × List AV × AV) := [(8, [nmA 0], canonK 40 0), (10, [nmA 0], .v (.int .i64 0)), (8, [nmA 32], canonK 50 32), (10, [nmA 32], .v (.int .i64 0))]

def adG : List (FuncId × List AV × AV) := [(16, [nmA 0, regsO, xA 7], .tup [xA 48, xA 49]), (16, [nmA 32, regsO, xA 7], .tup [xA 58, xA 59])]

def adS : List (FuncId × List AV × AV) := [(16, [nmA 0, regsO, xA 7], .tup [xA 48, .v (.int .i64 0)]), (16, [nmA 32, regsO, xA 7], .tup [xA 48, .v (.int .i64 0)])]

abbrev argsS : List AV := [nmA 0, nmA 32, regsO, xA 7]

abbrev argsT : List AV := [nmA 0, nmA 32, .osl 31, xA 7]

abbrev Same16 (t t' : List (FuncId × List AV × AV)) (val : Nat → Int) : Prop := TabOK Try.prog val sla0 t → TabOKO Try.prog val sla0 outs16 t' → LawO Try.prog 7 argsS outs16 sla0 val

abbrev SameL (t : List (FuncId × List AV × AV)) (val : Nat → Int) : Prop := ∀ sla, TabOK Try.prog val sla t → LawO Try.prog 7 argsT [] sla val

theorem wfS : wfVs (· < 1) argsS := ⟨plain_wf _ (by kernel_rfl), plain_wf _ (by kernel_rfl), Nat.zero_lt_one, trivial, trivial⟩

theorem leafS {t t' : List (FuncId × List AV × AV)} {val : Nat → Int} {F : List Fact} (h : Holds val F) (hb : t.all (fun x => bodyOK Try.prog x.1) = true) (hp : t.all (fun x => plain x.2.2 && plains x.2.1) = true)
    (hb' : t'.all (fun x => bodyOK Try.prog x.1) = true) (hp' : t'.all (fun x => plain x.2.2) = true)
    (hg : saysTrue (@runO (symsOf val F h sla0) Try.prog (orElse (known 14 yes []) (orElse (tabO t) (tabOO outs16 t'))) 1000 7 argsS outs16) = true) : Same16 t t' val :=
  fun ht ht' => leafOTT (orc := known 14 yes []) h awakeOK mix wfS (by kernel_rfl) hb hp ht hb' hp' ht' hg

theorem leafT' {t : List (FuncId × List AV × AV)} {val : Nat → Int} {F : List Fact} (h : Holds val F) (hb : t.all (fun x => bodyOK Try.prog x.1) = true) (hp : t.all (fun x => plain x.2.2 && plains x.2.1) = true)
    (hg : ∀ sla, saysTrue (@runO (symsOf val F h sla) Try.prog (orElse (known 14 yes []) (tabO t)) 1000 7 argsT []) = true) : SameL t val :=
  fun sla ht => leafOT (orc := known 14 yes []) h awakeOK mix (plains_wf _ (by kernel_rfl)) rfl hb hp ht (hg sla)

end Go.Proofs.Ytlegmdfceifkcaa.Tab
