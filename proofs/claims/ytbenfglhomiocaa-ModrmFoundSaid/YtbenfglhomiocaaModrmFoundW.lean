/-
  The law 'ModrmFound', of any bytes.
-/
import Derived.Test.YtbenfglhomiocaaFndO
import Derived.Test.YtbenfglhomiocaaFndS

namespace Go.Proofs.Ytbenfglhomiocaa.modrmFound
open Go.Sim Go.Proofs.Ytbenfglhomiocaa.Fld Go.Proofs.Ytbenfglhomiocaa.Tab Go.Proofs.Ytbenfglhomiocaa.Fnd
set_option maxRecDepth 100000

abbrev LawE (sla : Nat → Option Addr × Nat) (val : Nat → Int) : Prop := LawO Try.prog 5 [.osl 11, .sx .i64 (.a 3), .sx .i64 (.a 4)] [] sla val

theorem lE {sla : Nat → Option Addr × Nat} {val : Nat → Int} {F : List Fact} (h : Holds val F) (hg : saysTrue (@runO (symsOf val F h sla) Try.prog (known 7 yes []) 1000 5 [.osl 11, .sx .i64 (.a 3), .sx .i64 (.a 4)] []) = true) : LawE sla val :=
  lawO_of h (@awakeF (symsOf val F h sla)) mixF ⟨trivial, trivial, trivial, trivial⟩ rfl hg

section
variable {sla : Nat → Option Addr × Nat} {val : Nat → Int}

theorem longE (h : Holds val [.ge (.a 11) 31]) : LawE sla val := lE h (by kernel_rfl)

theorem x0E (h : Holds val [.ge (.a 11) 0, .le (.a 11) 30, .le (.a 3) (-1)]) : LawE sla val := lE h (by kernel_rfl)

theorem x2E (h : Holds val [.ge (.a 11) 0, .le (.a 11) 30, .ge (.a 3) 2]) : LawE sla val := lE h (by kernel_rfl)

theorem b0E (h : Holds val [.ge (.a 11) 0, .le (.a 11) 30, .ge (.a 3) 0, .le (.a 3) 1, .le (.a 4) (-1)]) : LawE sla val := lE h (by kernel_rfl)

theorem b2E (h : Holds val [.ge (.a 11) 0, .le (.a 11) 30, .ge (.a 3) 0, .le (.a 3) 1, .ge (.a 4) 2]) : LawE sla val := lE h (by kernel_rfl)

theorem emptyE (h : Holds val [.is (.a 11) 0, .ge (.a 3) 0, .le (.a 3) 1, .ge (.a 4) 0, .le (.a 4) 1]) : LawE sla val := lE h (by kernel_rfl)

end

theorem rangeB {n : Int} (h : (Lit.int .u8 n).wf = true) : 0 ≤ n ∧ n ≤ 255 := by
  have h' : (decide (IntKind.u8.min ≤ n) && decide (n ≤ IntKind.u8.max)) = true := h
  simp only [Bool.and_eq_true, decide_eq_true_eq] at h'
  exact h'

abbrev valE (len x b : Int) : Nat → Int := fun k => match k with | 11 => len | 3 => x | 4 => b | _ => 0

/-- Whatever the slice: wrong bits, or too long. -/
theorem badE {len x b : Int} (h0 : 0 ≤ len) (h : 30 < len ∨ x < 0 ∨ 1 < x ∨ b < 0 ∨ 1 < b) (sla : Nat → Option Addr × Nat) : LawE sla (valE len x b) := by
  by_cases h1 : 30 < len
  · exact longE (holds_cons (show (31 : Int) ≤ len by omega) holds_nil)
  · by_cases h2 : x < 0
    · exact x0E (holds_cons h0 (holds_cons (show len ≤ 30 by omega) (holds_cons (show x ≤ -1 by omega) holds_nil)))
    · by_cases h3 : 1 < x
      · exact x2E (holds_cons h0 (holds_cons (show len ≤ 30 by omega) (holds_cons (show 2 ≤ x by omega) holds_nil)))
      · by_cases h4 : b < 0
        · exact b0E (holds_cons h0 (holds_cons (show len ≤ 30 by omega) (holds_cons (show 0 ≤ x by omega) (holds_cons (show x ≤ 1 by omega) (holds_cons (show b ≤ -1 by omega) holds_nil)))))
        · exact b2E (holds_cons h0 (holds_cons (show len ≤ 30 by omega) (holds_cons (show 0 ≤ x by omega) (holds_cons (show x ≤ 1 by omega) (holds_cons (show 2 ≤ b by omega) holds_nil)))))

/-- The bytes, the bits: the law. -/
theorem allF (x bb : Nat) (x1 : x ≤ 1) (b1 : bb ≤ 1) (zs : List Int) (len : 1 ≤ zs.length) (h30 : zs.length ≤ 30) (hb : ∀ z ∈ zs, 0 ≤ z ∧ z ≤ 255) (cp : Nat) (hcp : zs.length ≤ cp) (w : World) (q off : Nat) (hlt : q < w.heap.size)
    (hc : ∀ (i : Nat) (m : Int), zs[i]? = some m → w.cell? ⟨q, off + i, none⟩ = some (.int .u8 m)) :
    Calls Try.prog 5 #[.slice (some ⟨q, off, none⟩) zs.length cp, .int .i64 x, .int .i64 bb] w fun e w' => e = .returned (.bool true) ∧ RowKit.Below w.heap.size w w' := by
  have h0 := nat_getD zs hb 0
  have t0 := nat_getD zs hb 1
  have hm : zs.getD 0 0 / 64 = (((zs.getD 0 0 / 64).toNat : Nat) : Int) := by omega
  have hs : zs.getD 1 0 / 64 = (((zs.getD 1 0 / 64).toNat : Nat) : Int) := by omega
  obtain ⟨e, f, o, he⟩ := ofCfg (r := rk (zs.getD 0 0 % 8)) (i := rk (zs.getD 1 0 / 8 % 8)) (b := rk (zs.getD 1 0 % 8)) x1 b1 len hm (by omega) (rk_kind _) hs (rk_kind _) (rk_kind _) (decide (2 ≤ zs.length)) rfl (fun h => by
    have := of_decide_eq_false h
    rw [List.getD_eq_getElem?_getD, List.getElem?_eq_none (by omega)]
    rfl)
  have l := sel x bb (zs.getD 0 0 / 64).toNat (rk (zs.getD 0 0 % 8)) (zs.getD 1 0 / 64).toNat (rk (zs.getD 1 0 / 8 % 8)) (rk (zs.getD 1 0 % 8)) (decide (2 ≤ zs.length)) e f x1 b1 (by omega) (rk_le _) (by omega) (rk_le _) (rk_le _)
  generalize hg : cfgOf x bb (zs.getD 0 0 / 64).toNat (rk (zs.getD 0 0 % 8)) (zs.getD 1 0 / 64).toNat (rk (zs.getD 1 0 / 8 % 8)) (rk (zs.getD 1 0 % 8)) (decide (2 ≤ zs.length)) e f = c at o he l
  have e1 : c.x = x := by rw [← hg]; rfl
  have e2 : c.bb = bb := by rw [← hg]; rfl
  have hcp' : (zs.length : Int) ≤ (cp : Int) := by omega
  have r := l (valF cp c.at zs) (preOK o hb h30 hcp' he) (tPOK o hb) (tQOK o hcp' hb (by omega)) (tMOK o hb) ⟨fun _ => q, fun _ => off⟩ w (rowOut hlt rfl (fun i _ => byteF c.at i) hc)
  have k : @concs (nameS (valF cp c.at zs) sF) ⟨fun _ => q, fun _ => off⟩ (argsF c) = [.slice (some ⟨q, off, none⟩) zs.length cp, .int .i64 x, .int .i64 bb] := by
    show @conc (nameS (valF cp c.at zs) sF) ⟨fun _ => q, fun _ => off⟩ (.ry 0 (.c (.ofNat 0)) (.a 1) (.a 2)) :: _ = _
    rw [@ry0_conc _ (nameS (valF cp c.at zs) sF)]
    subst e1 e2
    rfl
  rw [k] at r
  exact r

theorem walk (s : Value) (x : Int) (_ : (Lit.int .i64 x).wf = true) (b : Int) (_ : (Lit.int .i64 b).wf = true) (w : World) (hs : SliceIn w .u8 s) :
    Calls Try.prog 5 #[s, .int .i64 x, .int .i64 b] w fun e w' => e = .returned (.bool true) ∧ RowKit.Below w.heap.size w w' := by
  rcases hs with ⟨oa, cap, rfl⟩ | ⟨q, off, cap, zs, h0, rfl, hcap, hlt, hc, hwf⟩
  · by_cases h : (30 : Int) < 0 ∨ x < 0 ∨ 1 < x ∨ b < 0 ∨ 1 < b
    · exact badE (len := 0) (by omega) h (fun _ => (oa, cap)) E0 w (noOut _ _)
    · exact emptyE (sla := fun _ => (oa, cap)) (val := valE 0 x b) (holds_cons (show (0 : Int) = 0 from rfl) (holds_cons (show 0 ≤ x by omega) (holds_cons (show x ≤ 1 by omega) (holds_cons (show 0 ≤ b by omega) (holds_cons (show b ≤ 1 by omega) holds_nil))))) E0 w (noOut _ _)
  · have hb : ∀ z ∈ zs, 0 ≤ z ∧ z ≤ 255 := fun z hz => rangeB (hwf z hz)
    by_cases h : (30 : Int) < (zs.length : Int) ∨ x < 0 ∨ 1 < x ∨ b < 0 ∨ 1 < b
    · exact badE (len := zs.length) (by omega) h (fun _ => (some ⟨q, off, none⟩, cap)) E0 w (noOut _ _)
    · obtain ⟨x', rfl⟩ := Int.eq_ofNat_of_zero_le (show 0 ≤ x by omega)
      obtain ⟨b', rfl⟩ := Int.eq_ofNat_of_zero_le (show 0 ≤ b by omega)
      exact allF x' b' (by omega) (by omega) zs h0 (by omega) hb cap hcap w q off hlt hc

end Go.Proofs.Ytbenfglhomiocaa.modrmFound
