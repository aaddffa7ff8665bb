/-
  What modrm.join, reg.Low, reg.High and modrm.put give: bytes of numbers.
-/
import Derived.Test.YtbenfglhomiocaaReadC
import Derived.Test.YtbenfglhomiocaaSimM

namespace Go.Proofs.Ytbenfglhomiocaa.Fnd
open Go.Sim Go.Proofs.Ytbenfglhomiocaa.Fld Go.Proofs.Ytbenfglhomiocaa.Tab
set_option maxRecDepth 100000

abbrev jnX : SX := .wrap .u8 (.or .i64 (.or .i64 (.wrap .i64 (.shl (.a 0) 6)) (.wrap .i64 (.shl (.a 1) 3))) (.a 2))

theorem jn_eval : ∀ (m : Fin 4) (f r : Fin 8), jnX.eval (fun k => [(m.val : Int), (f.val : Int), (r.val : Int)].getD k 0) = 64 * (m.val : Int) + 8 * (f.val : Int) + (r.val : Int) := by decide +kernel

/-- The byte of three fields. -/
theorem join31 (m f r : Int) (hm : 0 ≤ m ∧ m ≤ 3) (hf : 0 ≤ f ∧ f ≤ 7) (hr : 0 ≤ r ∧ r ≤ 7) : Ret Try.prog 31 [.int .i64 m, .int .i64 f, .int .i64 r] (.int .u8 (64 * m + 8 * f + r)) := by
  have k := retV (val := fun k => [m, f, r].getD k 0) (F := []) holds_nil (tab := []) tabNil rfl rfl (f := 31) (args := [.sx .i64 (.a 0), .sx .i64 (.a 1), .sx .i64 (.a 2)]) (v := .sx .u8 jnX) (by kernel_rfl) (by kernel_rfl) (by kernel_rfl)
  have e := jn_eval ⟨m.toNat, by omega⟩ ⟨f.toNat, by omega⟩ ⟨r.toNat, by omega⟩
  simp only [Int.toNat_of_nonneg hm.1, Int.toNat_of_nonneg hf.1, Int.toNat_of_nonneg hr.1] at e
  have h : @conc (symsOf (fun k => [m, f, r].getD k 0) [] holds_nil sl0) E0 (.sx .u8 jnX) = .int .u8 (64 * m + 8 * f + r) := by
    rw [← e]
    rfl
  rw [h] at k
  exact k

theorem reg15 {n : Int} (h : 0 ≤ n ∧ n ≤ 15) : Holds (fun _ => n) [.ge (.a 0) 0, .le (.a 0) 15] := holds_cons h.1 (holds_cons h.2 holds_nil)

theorem low32 (c : Int) (hc : c = 5 ∨ c = 6) (n : Int) (h : 0 ≤ n ∧ n ≤ 15) : Ret Try.prog 32 [.agg #[.int .i64 c, .int .i64 n]] (.int .i64 (n % 8)) := by
  have key : ∀ c : Int, c = 5 ∨ c = 6 → Ret Try.prog 32 [.agg #[.int .i64 c, .int .i64 n]] (.int .i64 (n.tmod 8)) := by
    intro c hc
    rcases hc with rfl | rfl
    · exact retV (reg15 h) (tab := []) tabNil rfl rfl (f := 32) (args := [.agg [.v (.int .i64 5), .sx .i64 (.a 0)]]) (v := .sx .i64 (.rem (.a 0) 8)) (by kernel_rfl) (by kernel_rfl) (by kernel_rfl)
    · exact retV (reg15 h) (tab := []) tabNil rfl rfl (f := 32) (args := [.agg [.v (.int .i64 6), .sx .i64 (.a 0)]]) (v := .sx .i64 (.rem (.a 0) 8)) (by kernel_rfl) (by kernel_rfl) (by kernel_rfl)
  have k := key c hc
  rw [Int.tmod_eq_emod_of_nonneg h.1] at k
  exact k

theorem high33 (c : Int) (hc : c = 5 ∨ c = 6) (n : Int) (h : 0 ≤ n ∧ n ≤ 15) : Ret Try.prog 33 [.agg #[.int .i64 c, .int .i64 n]] (.int .i64 (n / 8)) := by
  have key : ∀ c : Int, c = 5 ∨ c = 6 → Ret Try.prog 33 [.agg #[.int .i64 c, .int .i64 n]] (.int .i64 (IntKind.i64.wrap (n.tdiv 8))) := by
    intro c hc
    rcases hc with rfl | rfl
    · exact retV (reg15 h) (tab := []) tabNil rfl rfl (f := 33) (args := [.agg [.v (.int .i64 5), .sx .i64 (.a 0)]]) (v := .sx .i64 (.wrap .i64 (.quo (.a 0) 8))) (by kernel_rfl) (by kernel_rfl) (by kernel_rfl)
    · exact retV (reg15 h) (tab := []) tabNil rfl rfl (f := 33) (args := [.agg [.v (.int .i64 6), .sx .i64 (.a 0)]]) (v := .sx .i64 (.wrap .i64 (.quo (.a 0) 8))) (by kernel_rfl) (by kernel_rfl) (by kernel_rfl)
  have k := key c hc
  rw [Int.tdiv_eq_ediv_of_nonneg h.1, wrapI] at k
  rw [show (n / 8 + 9223372036854775808) % 18446744073709551616 - 9223372036854775808 = n / 8 by omega] at k
  exact k

/-! The bytes of a number. -/

noncomputable abbrev IC : Syms := nameS (fun _ => 0) sl0

/-- The i-th byte. -/
abbrev byteOf (n : Int) (i : Nat) : Int := n / 2 ^ (8 * i) % 256

abbrev pX (i : Nat) : SX := .wrap .u8 (.shr (.wrap .u64 (.a 0)) (8 * i))

theorem pX_eval (n : Int) (i : Nat) (hi : i ≤ 3) : (pX i).eval (fun _ => n) = byteOf n i := by
  show IntKind.u8.wrap ((IntKind.u64.wrap n).fdiv (2 ^ (8 * i))) = n / 2 ^ (8 * i) % 256
  have hw : IntKind.u8.wrap ((IntKind.u64.wrap n).fdiv (2 ^ (8 * i))) = (IntKind.u64.wrap n).fdiv (2 ^ (8 * i)) % 256 := by
    simp only [IntKind.wrap, IntKind.bits, IntKind.signed, Bool.false_and, Bool.false_eq_true, if_false]; rfl
  rw [hw, wrapU]
  have h : i = 0 ∨ i = 1 ∨ i = 2 ∨ i = 3 := by omega
  rcases h with rfl | rfl | rfl | rfl <;> rw [Int.fdiv_eq_ediv_of_nonneg _ (by decide)] <;> simp only [Nat.reduceMul, Int.reducePow] <;> omega

theorem sgn_id (n : Int) (s : Nat) (hs : (s = 1 ∧ -128 ≤ n ∧ n ≤ 127) ∨ (s = 4 ∧ -2147483648 ≤ n ∧ n ≤ 2147483647)) : sgnF n (8 * s) = n := by
  rcases hs with ⟨rfl, h1, h2⟩ | ⟨rfl, h1, h2⟩
  · show (n + 2 ^ 7) % 2 ^ 8 - 2 ^ 7 = n
    simp only [Int.reducePow]; omega
  · show (n + 2 ^ 31) % 2 ^ 32 - 2 ^ 31 = n
    simp only [Int.reducePow]; omega

theorem wide60 (n : Int) (s : Nat) (hs : (s = 1 ∧ -128 ≤ n ∧ n ≤ 127) ∨ (s = 4 ∧ -2147483648 ≤ n ∧ n ≤ 2147483647)) : Ret Try.prog 60 [.int .i64 n, .int .i64 ((8 * s : Nat) : Int)] (.bool true) := by
  have hn : In n := by rcases hs with ⟨_, h1, h2⟩ | ⟨_, h1, h2⟩ <;> exact ⟨by omega, by omega⟩
  have := wideAll n hn (8 * s) (by omega) (by omega)
  rw [sgn_id n s hs, beq_self_eq_true, Bool.true_or] at this
  exact this

def putT (s : Nat) : List (FuncId × List AV × AV) := [(60, [.sx .i64 (.a 0), .v (.int .i64 (.ofNat (8 * s)))], .v (.bool true))]

theorem putTOK (n : Int) (s : Nat) (hs : (s = 1 ∧ -128 ≤ n ∧ n ≤ 127) ∨ (s = 4 ∧ -2147483648 ≤ n ∧ n ≤ 2147483647)) : TabOK Try.prog (fun _ => n) sl0 (putT s) := by
  intro y hy
  simp only [putT, List.mem_cons, List.not_mem_nil, or_false] at hy
  subst hy
  exact wide60 n s hs

/-- What modrm.put makes. -/
theorem put1 (n : Int) (h1 : -128 ≤ n) (h2 : n ≤ 127) (w : World) : @SummV IC Try.prog 44 [.int .i64 n, .int .i64 1] (.sl 0 0 1 1) [⟨5, false, 1, [.v (.int .u8 (byteOf n 0))]⟩] w := by
  have hF : Holds (fun _ => n) [.ge (.a 0) (-128), .le (.a 0) 127] := holds_cons h1 (holds_cons h2 holds_nil)
  have k := retM_of (P := Try.prog) hF (sla := sl0) (orc := tabO (putT 1)) (fuel := 1000) (f := 44) (args := [.sx .i64 (.a 0), .v (.int .i64 1)]) (outs := []) (ids := [0]) (v0 := .sl 0 0 1 1) (bs := [⟨5, false, 1, [.sx .u8 (pX 0)]⟩])
    (tabOK_sound hF (by kernel_rfl) (by kernel_rfl) (putTOK n 1 (.inl ⟨rfl, h1, h2⟩))) mix ⟨trivial, trivial, trivial⟩ rfl (by kernel_rfl) E0 w (fun k o hk => by simp at hk)
  have e : @concs (nameS (fun _ => n) sl0) E0 [.sx .i64 (.a 0), .v (.int .i64 1)] = [.int .i64 n, .int .i64 1] := by simp only [concs, conc]; rfl
  rw [e] at k
  refine summV_congr (I := nameS (fun _ => n) sl0) (J := IC) (v0 := .sl 0 0 1 1) (bs := [⟨5, false, 1, [.sx .u8 (pX 0)]⟩]) (fun E => by simp only [conc]) rfl (fun k fb fb' hk hk' => ?_) k
  cases k with
  | zero =>
    simp only [List.getElem?_cons_zero, Option.some.injEq] at hk hk'
    subst hk hk'
    refine ⟨rfl, rfl, rfl, fun E => ?_⟩
    simp only [concs, conc]
    rw [show (pX 0).eval (nameS (fun _ => n) sl0).val = byteOf n 0 from pX_eval n 0 (by omega)]
  | succ k => simp at hk

theorem put4 (n : Int) (h1 : -2147483648 ≤ n) (h2 : n ≤ 2147483647) (w : World) : @SummV IC Try.prog 44 [.int .i64 n, .int .i64 4] (.sl 0 0 4 4) [⟨5, false, 1, [.v (.int .u8 (byteOf n 0)), .v (.int .u8 (byteOf n 1)), .v (.int .u8 (byteOf n 2)), .v (.int .u8 (byteOf n 3))]⟩] w := by
  have hF : Holds (fun _ => n) [.ge (.a 0) (-2147483648), .le (.a 0) 2147483647] := holds_cons h1 (holds_cons h2 holds_nil)
  have k := retM_of (P := Try.prog) hF (sla := sl0) (orc := tabO (putT 4)) (fuel := 1000) (f := 44) (args := [.sx .i64 (.a 0), .v (.int .i64 4)]) (outs := []) (ids := [0]) (v0 := .sl 0 0 4 4) (bs := [⟨5, false, 1, [.sx .u8 (pX 0), .sx .u8 (pX 1), .sx .u8 (pX 2), .sx .u8 (pX 3)]⟩])
    (tabOK_sound hF (by kernel_rfl) (by kernel_rfl) (putTOK n 4 (.inr ⟨rfl, h1, h2⟩))) mix ⟨trivial, trivial, trivial⟩ rfl (by kernel_rfl) E0 w (fun k o hk => by simp at hk)
  have e : @concs (nameS (fun _ => n) sl0) E0 [.sx .i64 (.a 0), .v (.int .i64 4)] = [.int .i64 n, .int .i64 4] := by simp only [concs, conc]; rfl
  rw [e] at k
  refine summV_congr (I := nameS (fun _ => n) sl0) (J := IC) (v0 := .sl 0 0 4 4) (bs := [⟨5, false, 1, [.sx .u8 (pX 0), .sx .u8 (pX 1), .sx .u8 (pX 2), .sx .u8 (pX 3)]⟩]) (fun E => by simp only [conc]) rfl (fun k fb fb' hk hk' => ?_) k
  cases k with
  | zero =>
    simp only [List.getElem?_cons_zero, Option.some.injEq] at hk hk'
    subst hk hk'
    refine ⟨rfl, rfl, rfl, fun E => ?_⟩
    simp only [concs, conc]
    rw [show (pX 0).eval (nameS (fun _ => n) sl0).val = byteOf n 0 from pX_eval n 0 (by omega), show (pX 1).eval (nameS (fun _ => n) sl0).val = byteOf n 1 from pX_eval n 1 (by omega),
      show (pX 2).eval (nameS (fun _ => n) sl0).val = byteOf n 2 from pX_eval n 2 (by omega), show (pX 3).eval (nameS (fun _ => n) sl0).val = byteOf n 3 from pX_eval n 3 (by omega)]
  | succ k => simp at hk

/-- What is got of bytes has these bytes. -/
theorem byte_gv1 (zs : List Int) (hb : ∀ z ∈ zs, 0 ≤ z ∧ z ≤ 255) (q : Nat) : byteOf (gv zs q 1 true) 0 = zs.getD q 0 := by
  have h0 := nat_getD zs hb q
  show (sgnF (IntKind.i64.wrap (0 + 2 ^ (8 * 0) * zs.getD (q + 0) 0)) 8) / 2 ^ (8 * 0) % 256 = _
  rw [Nat.add_zero]
  generalize zs.getD q 0 = z at *
  rw [wrapI]
  simp only [sgnF, Nat.reduceMul, Nat.reduceSub, Int.reducePow]
  omega

theorem byte_gv4 (zs : List Int) (hb : ∀ z ∈ zs, 0 ≤ z ∧ z ≤ 255) (q i : Nat) (hi : i < 4) : byteOf (gv zs q 4 true) i = zs.getD (q + i) 0 := by
  have h0 := nat_getD zs hb q
  have h1 := nat_getD zs hb (q + 1)
  have h2 := nat_getD zs hb (q + 2)
  have h3 := nat_getD zs hb (q + 3)
  have e : gv zs q 4 true = sgnF (IntKind.i64.wrap (0 + 2 ^ (8 * 0) * zs.getD (q + 0) 0 + 2 ^ (8 * 1) * zs.getD (q + 1) 0 + 2 ^ (8 * 2) * zs.getD (q + 2) 0 + 2 ^ (8 * 3) * zs.getD (q + 3) 0)) 32 := rfl
  rw [e, Nat.add_zero]
  have h : i = 0 ∨ i = 1 ∨ i = 2 ∨ i = 3 := by omega
  rcases h with rfl | rfl | rfl | rfl <;> (try rw [Nat.add_zero]) <;> generalize zs.getD q 0 = z0 at * <;> generalize zs.getD (q + 1) 0 = z1 at * <;> generalize zs.getD (q + 2) 0 = z2 at * <;> generalize zs.getD (q + 3) 0 = z3 at * <;>
    rw [wrapI] <;> simp only [byteOf, sgnF, Nat.reduceMul, Nat.reduceSub, Int.reducePow] <;> omega

end Go.Proofs.Ytbenfglhomiocaa.Fnd
