/-
  What modrm.split and the document's sign do; bytes of a row.
-/
import Derived.Test.YtbenfglhomiocaaReadH
namespace Go.Proofs.Ytbenfglhomiocaa.Rd
open Go.Sim Go.Proofs.Ytbenfglhomiocaa.Fld Go.Proofs.Ytbenfglhomiocaa.Tab
set_option maxRecDepth 100000

theorem andM (x : Int) (k : Nat) (hk : k ≤ 62) (m : Int) (hm : m = ((2 ^ k - 1 : Nat) : Int)) : IntKind.i64.wrap (BitVec.ofInt IntKind.i64.bits x &&& BitVec.ofInt IntKind.i64.bits m).toNat = x % 2 ^ k := by
  have hp : 0 < 2 ^ k := Nat.two_pow_pos k
  have hle : 2 ^ k ≤ 2 ^ 62 := Nat.pow_le_pow_right (by omega) hk
  have h62 : (2 : Nat) ^ 62 = 4611686018427387904 := by decide
  have e : (BitVec.ofInt IntKind.i64.bits x &&& BitVec.ofInt IntKind.i64.bits m).toNat = (x % ((2 ^ k : Nat) : Int)).toNat := by
    show (BitVec.ofInt 64 x &&& BitVec.ofInt 64 m).toNat = _
    rw [BitVec.toNat_and, toNat_ofInt64, toNat_ofInt64, hm]
    have h1 : (((2 ^ k - 1 : Nat) : Int) % 18446744073709551616).toNat = 2 ^ k - 1 := by omega
    rw [h1, Nat.and_two_pow_sub_one_eq_mod]
    have hd : ((2 ^ k : Nat) : Int) ∣ 18446744073709551616 := by
      refine ⟨((2 ^ (64 - k) : Nat) : Int), ?_⟩
      rw [← Int.natCast_mul, ← Nat.pow_add, show k + (64 - k) = 64 by omega]
      rfl
    rw [← Int.emod_emod_of_dvd x hd]
    have h0 : 0 ≤ x % 18446744073709551616 := Int.emod_nonneg _ (by omega)
    obtain ⟨y, hy⟩ : ∃ y : Nat, x % 18446744073709551616 = y := ⟨(x % 18446744073709551616).toNat, by omega⟩
    rw [hy]
    simp only [Int.toNat_natCast]
    rw [← Int.natCast_emod, Int.toNat_natCast]
  rw [e]
  have h0 : 0 ≤ x % ((2 ^ k : Nat) : Int) := Int.emod_nonneg _ (by omega)
  have h1 : x % ((2 ^ k : Nat) : Int) < ((2 ^ k : Nat) : Int) := Int.emod_lt_of_pos _ (by omega)
  rw [wrapI]
  have e2 : (2 : Int) ^ k = ((2 ^ k : Nat) : Int) := by rw [Int.natCast_pow]; rfl
  rw [e2]
  generalize x % ((2 ^ k : Nat) : Int) = z at *
  omega

/-- The three fields of a byte. -/
theorem split22 (h : Int) (h0 : 0 ≤ h) (h1 : h ≤ 255) : Ret Try.prog 22 [.int .i64 h] (.tuple #[.int .i64 (IntKind.i64.wrap (h.tdiv 64)), .int .i64 ((IntKind.i64.wrap (h.tdiv 8)).tmod 8), .int .i64 (h.tmod 8)]) := by
  letI := symsOf (fun _ => h) [] holds_nil sl0
  have r := ret_of_gives (P := Try.prog) (orc := noOrc) (fuel := 1000) (f := 22) (args := [.sx .i64 (.a 0)]) (sh := [.i 0, .i 1, .i 2]) (Y := [.and .i64 (.shr (.a 0) 6) (.c 3), .and .i64 (.shr (.a 0) 3) (.c 7), .and .i64 (.a 0) (.c 7)]) noOrc_sound mix (by kernel_rfl) (by kernel_rfl)
  have a1 : SX.eval (fun _ => h) (.and .i64 (.shr (.a 0) 6) (.c 3)) = IntKind.i64.wrap (h.tdiv 64) := by
    show IntKind.i64.wrap (BitVec.ofInt IntKind.i64.bits (h.fdiv (2 ^ 6)) &&& BitVec.ofInt IntKind.i64.bits 3).toNat = _
    rw [andM _ 2 (by omega) 3 (by decide), fdivP, wrapI, Int.tdiv_eq_ediv_of_nonneg h0]
    omega
  have a2 : SX.eval (fun _ => h) (.and .i64 (.shr (.a 0) 3) (.c 7)) = (IntKind.i64.wrap (h.tdiv 8)).tmod 8 := by
    show IntKind.i64.wrap (BitVec.ofInt IntKind.i64.bits (h.fdiv (2 ^ 3)) &&& BitVec.ofInt IntKind.i64.bits 7).toNat = _
    rw [andM _ 3 (by omega) 7 (by decide), fdivP, wrapI, Int.tdiv_eq_ediv_of_nonneg h0, Int.tmod_eq_emod_of_nonneg (by omega)]
    omega
  have a3 : SX.eval (fun _ => h) (.and .i64 (.a 0) (.c 7)) = h.tmod 8 := by
    show IntKind.i64.wrap (BitVec.ofInt IntKind.i64.bits h &&& BitVec.ofInt IntKind.i64.bits 7).toNat = _
    rw [andM _ 3 (by omega) 7 (by decide), Int.tmod_eq_emod_of_nonneg h0]
    omega
  have e : shV [.i 0, .i 1, .i 2] (List.map (SX.eval (fun _ => h)) [.and .i64 (.shr (.a 0) 6) (.c 3), .and .i64 (.shr (.a 0) 3) (.c 7), .and .i64 (.a 0) (.c 7)]) = .tuple #[.int .i64 (IntKind.i64.wrap (h.tdiv 64)), .int .i64 ((IntKind.i64.wrap (h.tdiv 8)).tmod 8), .int .i64 (h.tmod 8)] := by
    simp only [List.map_cons, List.map_nil, a1, a2, a3]
    rfl
  have r' : Ret Try.prog 22 [.int .i64 h] (shV [.i 0, .i 1, .i 2] (List.map (SX.eval (fun _ => h)) [.and .i64 (.shr (.a 0) 6) (.c 3), .and .i64 (.shr (.a 0) 3) (.c 7), .and .i64 (.a 0) (.c 7)])) := r
  rw [e] at r'
  exact r'

abbrev rowK (k : Nat) : List (Nat × List AV) := [(0, [.row .u8 100 (.c (.ofNat k))])]

abbrev argK (k : Nat) : AV := .ry 0 (.c (.ofNat 0)) (.c (.ofNat k)) (.a 2)

theorem rowOutK {val : Nat → Int} {w : World} {b off : Nat} {zs : List Int} (hb : b < w.heap.size) (hv : ∀ i : Nat, i < zs.length → val (100 + i) = zs.getD i 0)
    (hc : ∀ (i : Nat) (n : Int), zs[i]? = some n → w.cell? ⟨b, off + i, none⟩ = some (.int .u8 n)) : @OutOK (nameS val sl0) ⟨fun _ => b, fun _ => off⟩ w (rowK zs.length) := by
  intro k o hk
  cases k with
  | zero =>
    simp only [List.getElem?_cons_zero, Option.some.injEq] at hk
    subst hk
    refine ⟨hb, fun hn => absurd rfl hn, fun ki k0 n he => ?_⟩
    simp only [Prod.mk.injEq, true_and, List.cons.injEq, AV.row.injEq, and_true] at he
    obtain ⟨rfl, rfl, rfl⟩ := he
    intro i hi
    have hi : (i : Int) < (zs.length : Int) := hi
    have hi' : i < zs.length := by omega
    show w.cell? ⟨b, off + i, none⟩ = some (.int .u8 (val (100 + i)))
    rw [hv i hi']
    have := hc i zs[i] (List.getElem?_eq_getElem hi')
    rw [this, List.getD_eq_getElem?_getD, List.getElem?_eq_getElem hi']
    rfl
  | succ k => simp at hk

abbrev valS (cap : Int) (zs : List Int) : Nat → Int := fun k => if k < 100 then cap else zs.getD (k - 100) 0

/-- The number of bytes by its sign. -/
def sv (zs : List Int) : Int := if zs.length = 0 then 0 else gv zs 0 zs.length true

abbrev S1 : SX := w (.add (.c 0) (w (.a 100)))

abbrev S4 : SX := w (.add (w (.mul (.c 256) (w (.add (w (.mul (.c 256) (w (.add (w (.mul (.c 256) (w (.add (.c 0) (w (.a 103)))))) (w (.a 102)))))) (w (.a 101)))))) (w (.a 100)))

theorem sign39 (wd : World) (v : Value) (zs : List Int) (hb : ∀ z ∈ zs, 0 ≤ z ∧ z ≤ 255) (hl : zs.length = 0 ∨ zs.length = 1 ∨ zs.length = 4) (h : SliceOf wd .u8 v zs) :
    Calls Try.prog 39 #[v] wd fun e w' => e = .returned (.int .i64 (sv zs)) ∧ RowKit.Below wd.heap.size wd w' := by
  rcases h with ⟨rfl, oa, cap, rfl⟩ | ⟨b, off, cap, h0, rfl, hcap, hlt, hc⟩
  · have hF : Holds (fun _ => (0 : Int)) [.is (.a 1) 0] := holds_cons (show (0 : Int) = 0 from rfl) holds_nil
    have r := retO_of hF (sla := fun _ => (oa, cap)) (fuel := 1000) (f := 39) (args := [.osl 1]) (outs := []) (sh := [.i 0]) (Y := [.c 0]) (@noOrc_sound _ (symsOf _ _ _ _)) mix ⟨trivial, trivial⟩ (by kernel_rfl) (by kernel_rfl) E0 wd (noOut _ _)
    exact r
  · have hz := fun i => nat_getD zs hb i
    have h0' := hz 0
    have h1' := hz 1
    have h2' := hz 2
    have h3' := hz 3
    have hv : ∀ i : Nat, i < zs.length → valS cap zs (100 + i) = zs.getD i 0 := by
      intro i _
      show (if 100 + i < 100 then _ else zs.getD (100 + i - 100) 0) = _
      rw [if_neg (by omega), show 100 + i - 100 = i by omega]
    have ho := rowOutK hlt hv hc
    have hcn : @conc (nameS (valS cap zs) sl0) ⟨fun _ => b, fun _ => off⟩ (argK zs.length) = .slice (some ⟨b, off, none⟩) zs.length cap := by
      rw [@ry0_conc _ (nameS (valS cap zs) sl0)]
      rfl
    have fin : ∀ Y : SX, Y.eval (valS cap zs) = sv zs → RetO Try.prog 39 [argK zs.length] (rowK zs.length) sl0 (valS cap zs) (shV [.i 0] (List.map (SX.eval (valS cap zs)) [Y])) →
        Calls Try.prog 39 #[.slice (some ⟨b, off, none⟩) zs.length cap] wd fun e w' => e = .returned (.int .i64 (sv zs)) ∧ RowKit.Below wd.heap.size wd w' := by
      intro Y hY hr
      have := hr ⟨fun _ => b, fun _ => off⟩ wd ho
      simp only [concs, hcn, List.map_cons, List.map_nil, hY] at this
      exact this
    have v0 : valS cap zs 100 = zs.getD 0 0 := rfl
    have v1 : valS cap zs 101 = zs.getD 1 0 := rfl
    have v2 : valS cap zs 102 = zs.getD 2 0 := rfl
    have v3 : valS cap zs 103 = zs.getD 3 0 := rfl
    rcases hl with hl | hl | hl
    · omega
    · have hsv : sv zs = gv zs 0 1 true := by unfold sv; rw [if_neg (by omega), hl]
      rw [hl] at fin ⊢
      by_cases hb7 : 128 ≤ zs.getD 0 0
      · have hF : Holds (valS cap zs) [.ge (.a 100) 128] := holds_cons hb7 holds_nil
        refine fin (w (.sub S1 (.c 256))) ?_ (retO_of hF (sla := sl0) (fuel := 1000) (@noOrc_sound _ (symsOf _ _ _ _)) mix ⟨Nat.zero_lt_one, trivial⟩ (by kernel_rfl) (by kernel_rfl))
        rw [hsv]
        simp only [SX.eval, wrapI, v0, gv, if_true, le, sgnF, Nat.zero_add, Nat.reduceMul, Nat.reduceSub, Int.reducePow, Nat.mul_zero]
        omega
      · have hF : Holds (valS cap zs) [.le (.a 100) 127] := holds_cons (show zs.getD 0 0 ≤ 127 by omega) holds_nil
        refine fin S1 ?_ (retO_of hF (sla := sl0) (fuel := 1000) (@noOrc_sound _ (symsOf _ _ _ _)) mix ⟨Nat.zero_lt_one, trivial⟩ (by kernel_rfl) (by kernel_rfl))
        rw [hsv]
        simp only [SX.eval, wrapI, v0, gv, if_true, le, sgnF, Nat.zero_add, Nat.reduceMul, Nat.reduceSub, Int.reducePow, Nat.mul_zero]
        omega
    · have hsv : sv zs = gv zs 0 4 true := by unfold sv; rw [if_neg (by omega), hl]
      rw [hl] at fin ⊢
      by_cases hb7 : 128 ≤ zs.getD 3 0
      · have hF : Holds (valS cap zs) [.ge (.a 103) 128] := holds_cons hb7 holds_nil
        refine fin (w (.sub S4 (.c 4294967296))) ?_ (retO_of hF (sla := sl0) (fuel := 1000) (@noOrc_sound _ (symsOf _ _ _ _)) mix ⟨Nat.zero_lt_one, trivial⟩ (by kernel_rfl) (by kernel_rfl))
        rw [hsv]
        simp only [SX.eval, wrapI, v0, v1, v2, v3, gv, if_true, le, sgnF, Nat.zero_add, Nat.reduceMul, Nat.reduceSub, Int.reducePow, Nat.mul_zero]
        omega
      · have hF : Holds (valS cap zs) [.le (.a 103) 127] := holds_cons (show zs.getD 3 0 ≤ 127 by omega) holds_nil
        refine fin S4 ?_ (retO_of hF (sla := sl0) (fuel := 1000) (@noOrc_sound _ (symsOf _ _ _ _)) mix ⟨Nat.zero_lt_one, trivial⟩ (by kernel_rfl) (by kernel_rfl))
        rw [hsv]
        simp only [SX.eval, wrapI, v0, v1, v2, v3, gv, if_true, le, sgnF, Nat.zero_add, Nat.reduceMul, Nat.reduceSub, Int.reducePow, Nat.mul_zero]
        omega

end Go.Proofs.Ytbenfglhomiocaa.Rd
