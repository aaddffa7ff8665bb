/-
  What field.Get, and the document's Get, do, of any slice of bytes: the same.
-/
import Derived.Test.YtbenfglhomiocaaFld
import Derived.Test.YtbenfglhomiocaaFldQ
namespace Go.Proofs.Ytbenfglhomiocaa.Fld
open Go.Sim
set_option maxRecDepth 100000

/-- The number of bytes, the lowest first. -/
def le (z : Nat → Int) : Nat → Int
  | 0 => 0
  | i + 1 => le z i + 2 ^ (8 * i) * z i

/-- As the code comes to it. -/
def gch (k : IntKind) (e : Nat → SX) : Nat → SX
  | 0 => .c 0
  | i + 1 => .or k (gch k e i) (.wrap k (.shl (.wrap k (.at 100 (e i))) (8 * i)))

theorem le_bounds (z : Nat → Int) : ∀ i, (∀ j, j < i → 0 ≤ z j ∧ z j ≤ 255) → 0 ≤ le z i ∧ le z i < 2 ^ (8 * i) := by
  intro i
  induction i with
  | zero => exact fun _ => ⟨Int.le_refl _, show (0 : Int) < 2 ^ 0 by decide⟩
  | succ i ih =>
    intro hz
    have ih := ih fun j hj => hz j (by omega)
    have hp : (0 : Int) < 2 ^ (8 * i) := by exact_mod_cast Nat.two_pow_pos (8 * i)
    have e : (2 : Int) ^ (8 * (i + 1)) = 2 ^ (8 * i) * 256 := by
      rw [show 8 * (i + 1) = 8 * i + 8 by omega, Int.pow_add]; rfl
    obtain ⟨h1, h2⟩ := hz i (by omega)
    have h3 : 2 ^ (8 * i) * z i ≤ 2 ^ (8 * i) * 255 := Int.mul_le_mul_of_nonneg_left h2 (by omega)
    have h4 : 0 ≤ 2 ^ (8 * i) * z i := Int.mul_nonneg (by omega) h1
    show 0 ≤ le z i + 2 ^ (8 * i) * z i ∧ le z i + 2 ^ (8 * i) * z i < 2 ^ (8 * (i + 1))
    rw [e]
    generalize (2 : Int) ^ (8 * i) = p at *
    omega

theorem wrap_mod64 (k : IntKind) (hk : k.bits = 64) (n : Int) : k.wrap n % 18446744073709551616 = n % 18446744073709551616 := by
  have := wrap_mod k n
  rw [hk] at this
  exact this

theorem pow64 : (2 : Int) ^ 64 = 18446744073709551616 := by decide

theorem gch_eval (k : IntKind) (hk : k.bits = 64) (val : Nat → Int) (e : Nat → SX) (z : Nat → Int) (m : Nat) (hm : m ≤ 8) (hz : ∀ i, i < m → 0 ≤ z i ∧ z i ≤ 255) (he : ∀ i, i < 8 → val (100 + ((e i).eval val).toNat) = z i) :
    ∀ i, i ≤ m → (gch k e i).eval val = k.wrap (le z i) := by
  intro i
  induction i with
  | zero => intro _; show (0 : Int) = k.wrap 0; cases k <;> rfl
  | succ i ih =>
    intro hi
    have ih := ih (by omega)
    show k.wrap (BitVec.ofInt k.bits ((gch k e i).eval val) ||| BitVec.ofInt k.bits (k.wrap (k.wrap (val (100 + ((e i).eval val).toNat)) * 2 ^ (8 * i)))).toNat = _
    rw [ih, he i (by omega)]
    obtain ⟨b1, b2⟩ := le_bounds z i fun j hj => hz j (by omega)
    obtain ⟨z1, z2⟩ := hz i (by omega)
    have hp : (0 : Int) < 2 ^ (8 * i) := by exact_mod_cast Nat.two_pow_pos (8 * i)
    have hle : (2 : Int) ^ (8 * i) * 256 ≤ 18446744073709551616 := by
      have h1 : (2 : Nat) ^ (8 * i + 8) ≤ 2 ^ 64 := Nat.pow_le_pow_right (by omega) (by omega)
      have h2 : ((2 ^ (8 * i + 8) : Nat) : Int) ≤ ((2 ^ 64 : Nat) : Int) := Int.ofNat_le.2 h1
      rw [Int.natCast_pow, Int.natCast_pow, Int.pow_add] at h2
      exact h2
    have e1 : k.wrap (z i) * 2 ^ (8 * i) % 18446744073709551616 = 2 ^ (8 * i) * z i := by
      have hw : k.wrap (z i) = z i := by
        refine wrap_in k ?_ ?_ <;> cases k <;> simp [IntKind.bits, IntKind.min, IntKind.max, IntKind.signed] at hk ⊢ <;> omega
      rw [hw, Int.mul_comm]
      have h3 : 2 ^ (8 * i) * z i ≤ 2 ^ (8 * i) * 255 := Int.mul_le_mul_of_nonneg_left z2 (by omega)
      have h4 : 0 ≤ 2 ^ (8 * i) * z i := Int.mul_nonneg (by omega) z1
      generalize (2 : Int) ^ (8 * i) = p at *
      omega
    show _ = k.wrap (le z i + 2 ^ (8 * i) * z i)
    obtain ⟨a, ha⟩ : ∃ a : Nat, le z i = a := ⟨(le z i).toNat, by omega⟩
    obtain ⟨c, hc⟩ : ∃ c : Nat, z i = c := ⟨(z i).toNat, by omega⟩
    rw [ha] at b1 b2 ⊢
    rw [hc] at e1 z1 z2 ⊢
    rw [orW k hk (a := a) (c := c) (m := 8 * i) ?_ ?_ ?_]
    · congr 1
      push_cast
      omega
    · rw [wrap_mod64 k hk]
      generalize (2 : Int) ^ (8 * i) = p at *
      omega
    · rw [wrap_mod64 k hk, e1]
      push_cast
      rfl
    · have : ((a : Nat) : Int) < ((2 ^ (8 * i) : Nat) : Int) := by push_cast; exact b2
      omega

/-- The number that bytes tell. -/
def gv (zs : List Int) (a s : Nat) (signed : Bool) : Int :=
  if signed then sgnF (IntKind.i64.wrap (le (fun i => zs.getD (a + i) 0) s)) (8 * s) else IntKind.i64.wrap (le (fun i => zs.getD (a + i) 0) s)

def isSize (n : Int) : Prop := n = 1 ∨ n = 2 ∨ n = 4 ∨ n = 8

instance (n : Int) : Decidable (isSize n) := inferInstanceAs (Decidable (n = 1 ∨ n = 2 ∨ n = 4 ∨ n = 8))

/-- What Get tells. -/
def getN (zs : List Int) (at' size : Int) (signed : Bool) : Int × Int :=
  if isSize size then
    if at' < 0 ∨ (zs.length : Int) < at' then (0, 5)
    else if (zs.length : Int) - at' < size then (0, 9)
    else (gv zs at'.toNat size.toNat signed, 0)
  else (0, 2)

abbrev rowS : List (Nat × List AV) := [(0, [.row .u8 100 (.a 1)])]

abbrev argR : AV := .ry 0 (.c (.ofNat 0)) (.a 1) (.a 2)

abbrev exG (i : Nat) : SX := .wrap .i64 (.add (.a 0) (.c (.ofNat i)))

/-- Named: where; how many; how far; the number by its sign; the size; is it by its sign? -/
abbrev valG (a l c r s g : Int) (zs : List Int) : Nat → Int := fun k => if k < 100 then [a, l, c, r, s, g].getD k 0 else zs.getD (k - 100) 0

/-- Where a row lies. -/
theorem rowOut {val : Nat → Int} {w : World} {b off : Nat} {zs : List Int} (hb : b < w.heap.size) (hl : val 1 = zs.length) (hv : ∀ i : Nat, i < zs.length → val (100 + i) = zs.getD i 0)
    (hc : ∀ (i : Nat) (n : Int), zs[i]? = some n → w.cell? ⟨b, off + i, none⟩ = some (.int .u8 n)) : @OutOK (nameS val sl0) ⟨fun _ => b, fun _ => off⟩ w rowS := by
  intro k o hk
  cases k with
  | zero =>
    simp only [List.getElem?_cons_zero, Option.some.injEq] at hk
    subst hk
    refine ⟨hb, fun hn => absurd rfl hn, fun ki k0 n he => ?_⟩
    simp only [Prod.mk.injEq, true_and, List.cons.injEq, AV.row.injEq, and_true] at he
    obtain ⟨rfl, rfl, rfl⟩ := he
    intro i hi
    have hi : (i : Int) < val 1 := hi
    have hi' : i < zs.length := by omega
    show w.cell? ⟨b, off + i, none⟩ = some (.int .u8 (val (100 + i)))
    rw [hv i hi']
    have := hc i zs[i] (List.getElem?_eq_getElem hi')
    rw [this, List.getD_eq_getElem?_getD, List.getElem?_eq_getElem hi']
    rfl
  | succ k => simp at hk

theorem noOut {I : Syms} (E : Env) (w : World) : @OutOK I E w [] := fun k o hk => by simp at hk

theorem wfRow : wfVs (· < rowS.length) [argR, .sx .i64 (.a 0), .sx .i64 (.a 4), .sb (.eq (.a 5) (.c 1))] := ⟨Nat.zero_lt_one, trivial, trivial, trivial, trivial⟩

theorem wfRowC (s : Int) (b : Bool) : wfVs (· < rowS.length) [argR, .sx .i64 (.a 0), .v (.int .i64 s), .v (.bool b)] := ⟨Nat.zero_lt_one, trivial, trivial, trivial, trivial⟩

theorem wfRowS (s : Int) : wfVs (· < rowS.length) [argR, .sx .i64 (.a 0), .v (.int .i64 s), .sb (.eq (.a 5) (.c 1))] := ⟨Nat.zero_lt_one, trivial, trivial, trivial, trivial⟩

theorem argsE {a l c r s : Int} {g : Bool} {zs : List Int} {sla : Nat → Option Addr × Nat} {E : Env} (x : AV) (s' : Int) : @concs (nameS (valG a l c r s (if g then 1 else 0) zs) sla) E [x, .sx .i64 (.a 0), .v (.int .i64 s'), .sb (.eq (.a 5) (.c 1))] =
    [@conc (nameS (valG a l c r s (if g then 1 else 0) zs) sla) E x, .int .i64 a, .int .i64 s', .bool g] := by
  simp only [concs]
  cases g <;> rfl

theorem argsN {a l c r s : Int} {g : Bool} {zs : List Int} {sla : Nat → Option Addr × Nat} {E : Env} (x : AV) : @concs (nameS (valG a l c r s (if g then 1 else 0) zs) sla) E [x, .sx .i64 (.a 0), .sx .i64 (.a 4), .sb (.eq (.a 5) (.c 1))] =
    [@conc (nameS (valG a l c r s (if g then 1 else 0) zs) sla) E x, .int .i64 a, .int .i64 s, .bool g] := by
  simp only [concs]
  cases g <;> rfl

theorem argsC {a l c r s q : Int} {g : Bool} {zs : List Int} {sla : Nat → Option Addr × Nat} {E : Env} (x : AV) (s' : Int) : @concs (nameS (valG a l c r s q zs) sla) E [x, .sx .i64 (.a 0), .v (.int .i64 s'), .v (.bool g)] =
    [@conc (nameS (valG a l c r s q zs) sla) E x, .int .i64 a, .int .i64 s', .bool g] := by
  simp only [concs]
  rfl

theorem oslE {a c r s q : Int} {zs : List Int} {oa : Option Addr} {cap : Nat} {E : Env} : @conc (nameS (valG a 0 c r s q zs) (fun _ => (oa, cap))) E (.osl 1) = .slice oa 0 cap := by
  simp only [conc]
  rfl

theorem nat_getD (zs : List Int) (hb : ∀ z ∈ zs, 0 ≤ z ∧ z ≤ 255) (i : Nat) : 0 ≤ zs.getD i 0 ∧ zs.getD i 0 ≤ 255 := by
  rw [List.getD_eq_getElem?_getD]
  cases h : zs[i]? with
  | none => exact ⟨by decide, by decide⟩
  | some z => exact hb z (List.mem_of_getElem? h)

theorem fine11_1 {a l c r g : Int} {zs : List Int} (ha : 0 ≤ a) (hl : l = zs.length) (hs : a + 1 ≤ l) (hm : l ≤ 4611686018427387904) : Holds (valG a l c r 1 g zs) [.ge (.a 1) 0, .ge (.a 0) 0, .at (.lt (.a 1) (.a 0)) false, .ge (.wrap .i64 (.sub (.a 1) (.a 0))) 1, .ge (exG 0) 0, .at (.lt (exG 0) (.a 1)) true] := by
  have h1 : IntKind.i64.wrap (l - a) = l - a := by rw [wrapI]; omega
  have e0 : IntKind.i64.wrap (a + 0) = a + 0 := by rw [wrapI]; omega
  refine holds_cons (show 0 ≤ l by omega) (holds_cons (show 0 ≤ a from ha) (holds_cons (show decide (l < a) = false by simp; omega) (holds_cons (show 1 ≤ IntKind.i64.wrap (l - a) by rw [h1]; omega) (holds_cons (show 0 ≤ IntKind.i64.wrap (a + 0) by rw [e0]; omega) (holds_cons (show decide (IntKind.i64.wrap (a + 0) < l) = true by rw [e0]; simp; omega) holds_nil)))))

theorem num21_1 {a l c r g : Int} {zs : List Int} (ha : 0 ≤ a) (hl : l = zs.length) (hs : a + 1 ≤ l) (hm : l ≤ 4611686018427387904) (hb : ∀ i : Nat, i < 1 → 0 ≤ zs.getD (a.toNat + i) 0 ∧ zs.getD (a.toNat + i) 0 ≤ 255) :
    SX.eval (valG a l c r 1 g zs) (.wrap .i64 (gch .u64 exG 1)) = IntKind.i64.wrap (le (fun i => zs.getD (a.toNat + i) 0) 1) := by
  have he : ∀ i, i < 8 → valG a l c r 1 g zs (100 + ((exG i).eval (valG a l c r 1 g zs)).toNat) = zs.getD (a.toNat + i) 0 := by
    intro i hi
    have e : (exG i).eval (valG a l c r 1 g zs) = a + i := by
      show IntKind.i64.wrap (a + (i : Int)) = _
      rw [wrapI]; omega
    rw [e]
    show (if 100 + (a + (i : Int)).toNat < 100 then _ else zs.getD (100 + (a + (i : Int)).toNat - 100) 0) = _
    rw [if_neg (by omega)]
    congr 1
    omega
  have h := gch_eval .u64 rfl (valG a l c r 1 g zs) exG (fun i => zs.getD (a.toNat + i) 0) 1 (by omega) hb he 1 (Nat.le_refl _)
  show IntKind.i64.wrap ((gch .u64 exG 1).eval (valG a l c r 1 g zs)) = _
  rw [h]
  exact wrap_congr .i64 (wrap_mod .u64 _)

theorem getU21_1 {a l c r g : Int} {zs : List Int} (ha : 0 ≤ a) (hl : l = zs.length) (hs : a + 1 ≤ l) (hm : l ≤ 4611686018427387904) (hb : ∀ i : Nat, i < 1 → 0 ≤ zs.getD (a.toNat + i) 0 ∧ zs.getD (a.toNat + i) 0 ≤ 255) :
    RetO Try.prog 21 [argR, .sx .i64 (.a 0), .v (.int .i64 1), .v (.bool false)] rowS sl0 (valG a l c r 1 g zs) (.tuple #[.int .i64 (gv zs a.toNat 1 false), .int .i64 0]) := by
  have h := retO_of (fine11_1 (c := c) (r := r) (g := g) ha hl hs hm) (sla := sl0) (fuel := 1000) (f := 21) (args := [argR, .sx .i64 (.a 0), .v (.int .i64 1), .v (.bool false)]) (outs := rowS) (sh := [.i 0, .i 1]) (Y := [.wrap .i64 (gch .u64 exG 1), .c 0]) (@noOrc_sound _ (symsOf _ _ _ _)) mix (wfRowC _ _) (by kernel_rfl) (by kernel_rfl)
  have e := num21_1 (c := c) (r := r) (g := g) ha hl hs hm hb
  have e2 : shV [.i 0, .i 1] (List.map (SX.eval (valG a l c r 1 g zs)) [.wrap .i64 (gch .u64 exG 1), .c 0]) = .tuple #[.int .i64 (gv zs a.toNat 1 false), .int .i64 0] := by
    simp only [List.map_cons, e, gv]
    rfl
  rw [e2] at h
  exact h

theorem getS21_1 {a l c g : Int} {zs : List Int} (ha : 0 ≤ a) (hl : l = zs.length) (hs : a + 1 ≤ l) (hm : l ≤ 4611686018427387904) (hb : ∀ i : Nat, i < 1 → 0 ≤ zs.getD (a.toNat + i) 0 ∧ zs.getD (a.toNat + i) 0 ≤ 255) :
    RetO Try.prog 21 [argR, .sx .i64 (.a 0), .v (.int .i64 1), .v (.bool true)] rowS sl0 (valG a l c (gv zs a.toNat 1 true) 1 g zs) (.tuple #[.int .i64 (gv zs a.toNat 1 true), .int .i64 0]) := by
  have e := num21_1 (c := c) (r := gv zs a.toNat 1 true) (g := g) ha hl hs hm hb
  have ht : TabOK Try.prog (valG a l c (gv zs a.toNat 1 true) 1 g zs) sl0 [(37, [.sx .i64 (.wrap .i64 (gch .u64 exG 1)), .v (.int .i64 8)], .sx .i64 (.a 3))] := by
    intro x hx
    simp only [List.mem_cons, List.not_mem_nil, or_false] at hx
    subst hx
    have hw := wrap_bounds .i64 (le (fun i => zs.getD (a.toNat + i) 0) 1)
    have q := signAll _ hw 8 (by omega) (by omega)
    rw [← e] at q
    have e3 : sgnF (SX.eval (valG a l c (gv zs a.toNat 1 true) 1 g zs) (.wrap .i64 (gch .u64 exG 1))) 8 = gv zs a.toNat 1 true := by rw [e]; rfl
    rw [e3] at q
    exact q
  have hF := fine11_1 (c := c) (r := gv zs a.toNat 1 true) (g := g) ha hl hs hm
  have h := retO_of hF (sla := sl0) (fuel := 1000) (f := 21) (args := [argR, .sx .i64 (.a 0), .v (.int .i64 1), .v (.bool true)]) (outs := rowS) (sh := [.i 0, .i 1]) (Y := [.a 3, .c 0]) (tabOK_sound hF (by kernel_rfl) (by kernel_rfl) ht) mix (wfRowC _ _) (by kernel_rfl) (by kernel_rfl)
  exact h

theorem getneg21_1 {a l c r g : Int} {zs : List Int} (hl : 0 ≤ l) (ha : a < 0) :
    RetO Try.prog 21 [argR, .sx .i64 (.a 0), .v (.int .i64 1), .sb (.eq (.a 5) (.c 1))] rowS sl0 (valG a l c r 1 g zs) (.tuple #[.int .i64 0, .int .i64 5]) := by
  have hF : Holds (valG a l c r 1 g zs) [.ge (.a 1) 0, .le (.a 0) (-1)] := holds_cons (show 0 ≤ l from hl) (holds_cons (show a ≤ -1 by omega) holds_nil)
  exact retO_of hF (sla := sl0) (fuel := 1000) (f := 21) (args := [argR, .sx .i64 (.a 0), .v (.int .i64 1), .sb (.eq (.a 5) (.c 1))]) (outs := rowS) (sh := [.i 0, .i 1]) (Y := [.c 0, .c 5]) (@noOrc_sound _ (symsOf _ _ _ _)) mix (wfRowS _) (by kernel_rfl) (by kernel_rfl)

theorem getfar21_1 {a l c r g : Int} {zs : List Int} (hl : 0 ≤ l) (ha : 0 ≤ a) (hf : l < a) :
    RetO Try.prog 21 [argR, .sx .i64 (.a 0), .v (.int .i64 1), .sb (.eq (.a 5) (.c 1))] rowS sl0 (valG a l c r 1 g zs) (.tuple #[.int .i64 0, .int .i64 5]) := by
  have hF : Holds (valG a l c r 1 g zs) [.ge (.a 1) 0, .ge (.a 0) 0, .at (.lt (.a 1) (.a 0)) true] := holds_cons (show 0 ≤ l from hl) (holds_cons (show 0 ≤ a from ha) (holds_cons (show decide (l < a) = true by simp; omega) holds_nil))
  exact retO_of hF (sla := sl0) (fuel := 1000) (f := 21) (args := [argR, .sx .i64 (.a 0), .v (.int .i64 1), .sb (.eq (.a 5) (.c 1))]) (outs := rowS) (sh := [.i 0, .i 1]) (Y := [.c 0, .c 5]) (@noOrc_sound _ (symsOf _ _ _ _)) mix (wfRowS _) (by kernel_rfl) (by kernel_rfl)

theorem getcut21_1 {a l c r g : Int} {zs : List Int} (_ : l ≤ 4611686018427387904) (ha : 0 ≤ a) (hf : a ≤ l) (hc : l - a < 1) :
    RetO Try.prog 21 [argR, .sx .i64 (.a 0), .v (.int .i64 1), .sb (.eq (.a 5) (.c 1))] rowS sl0 (valG a l c r 1 g zs) (.tuple #[.int .i64 0, .int .i64 9]) := by
  have hF : Holds (valG a l c r 1 g zs) [.ge (.a 1) 0, .ge (.a 0) 0, .at (.lt (.a 1) (.a 0)) false, .le (.wrap .i64 (.sub (.a 1) (.a 0))) 0] := holds_cons (show 0 ≤ l by omega) (holds_cons (show 0 ≤ a from ha) (holds_cons (show decide (l < a) = false by simp; omega) (holds_cons (show IntKind.i64.wrap (l - a) ≤ 0 by rw [wrapI]; omega) holds_nil)))
  exact retO_of hF (sla := sl0) (fuel := 1000) (f := 21) (args := [argR, .sx .i64 (.a 0), .v (.int .i64 1), .sb (.eq (.a 5) (.c 1))]) (outs := rowS) (sh := [.i 0, .i 1]) (Y := [.c 0, .c 9]) (@noOrc_sound _ (symsOf _ _ _ _)) mix (wfRowS _) (by kernel_rfl) (by kernel_rfl)

theorem nilneg21_1 {a c r g : Int} {zs : List Int} (oa : Option Addr) (cap : Nat) (ha : a < 0) :
    RetO Try.prog 21 [.osl 1, .sx .i64 (.a 0), .v (.int .i64 1), .sb (.eq (.a 5) (.c 1))] [] (fun _ => (oa, cap)) (valG a 0 c r 1 g zs) (.tuple #[.int .i64 0, .int .i64 5]) := by
  have hF : Holds (valG a 0 c r 1 g zs) [.is (.a 1) 0, .le (.a 0) (-1)] := holds_cons (show (0 : Int) = 0 from rfl) (holds_cons (show a ≤ -1 by omega) holds_nil)
  exact retO_of hF (sla := fun _ => (oa, cap)) (fuel := 1000) (f := 21) (args := [.osl 1, .sx .i64 (.a 0), .v (.int .i64 1), .sb (.eq (.a 5) (.c 1))]) (outs := []) (sh := [.i 0, .i 1]) (Y := [.c 0, .c 5]) (@noOrc_sound _ (symsOf _ _ _ _)) mix ⟨trivial, trivial, trivial, trivial, trivial⟩ (by kernel_rfl) (by kernel_rfl)

theorem nilfar21_1 {a c r g : Int} {zs : List Int} (oa : Option Addr) (cap : Nat) (ha : 0 < a) :
    RetO Try.prog 21 [.osl 1, .sx .i64 (.a 0), .v (.int .i64 1), .sb (.eq (.a 5) (.c 1))] [] (fun _ => (oa, cap)) (valG a 0 c r 1 g zs) (.tuple #[.int .i64 0, .int .i64 5]) := by
  have hF : Holds (valG a 0 c r 1 g zs) [.is (.a 1) 0, .ge (.a 0) 1] := holds_cons (show (0 : Int) = 0 from rfl) (holds_cons (show 1 ≤ a by omega) holds_nil)
  exact retO_of hF (sla := fun _ => (oa, cap)) (fuel := 1000) (f := 21) (args := [.osl 1, .sx .i64 (.a 0), .v (.int .i64 1), .sb (.eq (.a 5) (.c 1))]) (outs := []) (sh := [.i 0, .i 1]) (Y := [.c 0, .c 5]) (@noOrc_sound _ (symsOf _ _ _ _)) mix ⟨trivial, trivial, trivial, trivial, trivial⟩ (by kernel_rfl) (by kernel_rfl)

theorem nilcut21_1 {a c r g : Int} {zs : List Int} (oa : Option Addr) (cap : Nat) (ha : a = 0) :
    RetO Try.prog 21 [.osl 1, .sx .i64 (.a 0), .v (.int .i64 1), .sb (.eq (.a 5) (.c 1))] [] (fun _ => (oa, cap)) (valG a 0 c r 1 g zs) (.tuple #[.int .i64 0, .int .i64 9]) := by
  have hF : Holds (valG a 0 c r 1 g zs) [.is (.a 1) 0, .is (.a 0) 0] := holds_cons (show (0 : Int) = 0 from rfl) (holds_cons (show a = 0 from ha) holds_nil)
  exact retO_of hF (sla := fun _ => (oa, cap)) (fuel := 1000) (f := 21) (args := [.osl 1, .sx .i64 (.a 0), .v (.int .i64 1), .sb (.eq (.a 5) (.c 1))]) (outs := []) (sh := [.i 0, .i 1]) (Y := [.c 0, .c 9]) (@noOrc_sound _ (symsOf _ _ _ _)) mix ⟨trivial, trivial, trivial, trivial, trivial⟩ (by kernel_rfl) (by kernel_rfl)

theorem fine11_2 {a l c r g : Int} {zs : List Int} (ha : 0 ≤ a) (hl : l = zs.length) (hs : a + 2 ≤ l) (hm : l ≤ 4611686018427387904) : Holds (valG a l c r 2 g zs) [.ge (.a 1) 0, .ge (.a 0) 0, .at (.lt (.a 1) (.a 0)) false, .ge (.wrap .i64 (.sub (.a 1) (.a 0))) 2, .ge (exG 0) 0, .at (.lt (exG 0) (.a 1)) true, .ge (exG 1) 0, .at (.lt (exG 1) (.a 1)) true] := by
  have h1 : IntKind.i64.wrap (l - a) = l - a := by rw [wrapI]; omega
  have e0 : IntKind.i64.wrap (a + 0) = a + 0 := by rw [wrapI]; omega
  have e1 : IntKind.i64.wrap (a + 1) = a + 1 := by rw [wrapI]; omega
  refine holds_cons (show 0 ≤ l by omega) (holds_cons (show 0 ≤ a from ha) (holds_cons (show decide (l < a) = false by simp; omega) (holds_cons (show 2 ≤ IntKind.i64.wrap (l - a) by rw [h1]; omega) (holds_cons (show 0 ≤ IntKind.i64.wrap (a + 0) by rw [e0]; omega) (holds_cons (show decide (IntKind.i64.wrap (a + 0) < l) = true by rw [e0]; simp; omega) (holds_cons (show 0 ≤ IntKind.i64.wrap (a + 1) by rw [e1]; omega) (holds_cons (show decide (IntKind.i64.wrap (a + 1) < l) = true by rw [e1]; simp; omega) holds_nil)))))))

theorem num21_2 {a l c r g : Int} {zs : List Int} (ha : 0 ≤ a) (hl : l = zs.length) (hs : a + 2 ≤ l) (hm : l ≤ 4611686018427387904) (hb : ∀ i : Nat, i < 2 → 0 ≤ zs.getD (a.toNat + i) 0 ∧ zs.getD (a.toNat + i) 0 ≤ 255) :
    SX.eval (valG a l c r 2 g zs) (.wrap .i64 (gch .u64 exG 2)) = IntKind.i64.wrap (le (fun i => zs.getD (a.toNat + i) 0) 2) := by
  have he : ∀ i, i < 8 → valG a l c r 2 g zs (100 + ((exG i).eval (valG a l c r 2 g zs)).toNat) = zs.getD (a.toNat + i) 0 := by
    intro i hi
    have e : (exG i).eval (valG a l c r 2 g zs) = a + i := by
      show IntKind.i64.wrap (a + (i : Int)) = _
      rw [wrapI]; omega
    rw [e]
    show (if 100 + (a + (i : Int)).toNat < 100 then _ else zs.getD (100 + (a + (i : Int)).toNat - 100) 0) = _
    rw [if_neg (by omega)]
    congr 1
    omega
  have h := gch_eval .u64 rfl (valG a l c r 2 g zs) exG (fun i => zs.getD (a.toNat + i) 0) 2 (by omega) hb he 2 (Nat.le_refl _)
  show IntKind.i64.wrap ((gch .u64 exG 2).eval (valG a l c r 2 g zs)) = _
  rw [h]
  exact wrap_congr .i64 (wrap_mod .u64 _)

theorem getU21_2 {a l c r g : Int} {zs : List Int} (ha : 0 ≤ a) (hl : l = zs.length) (hs : a + 2 ≤ l) (hm : l ≤ 4611686018427387904) (hb : ∀ i : Nat, i < 2 → 0 ≤ zs.getD (a.toNat + i) 0 ∧ zs.getD (a.toNat + i) 0 ≤ 255) :
    RetO Try.prog 21 [argR, .sx .i64 (.a 0), .v (.int .i64 2), .v (.bool false)] rowS sl0 (valG a l c r 2 g zs) (.tuple #[.int .i64 (gv zs a.toNat 2 false), .int .i64 0]) := by
  have h := retO_of (fine11_2 (c := c) (r := r) (g := g) ha hl hs hm) (sla := sl0) (fuel := 1000) (f := 21) (args := [argR, .sx .i64 (.a 0), .v (.int .i64 2), .v (.bool false)]) (outs := rowS) (sh := [.i 0, .i 1]) (Y := [.wrap .i64 (gch .u64 exG 2), .c 0]) (@noOrc_sound _ (symsOf _ _ _ _)) mix (wfRowC _ _) (by kernel_rfl) (by kernel_rfl)
  have e := num21_2 (c := c) (r := r) (g := g) ha hl hs hm hb
  have e2 : shV [.i 0, .i 1] (List.map (SX.eval (valG a l c r 2 g zs)) [.wrap .i64 (gch .u64 exG 2), .c 0]) = .tuple #[.int .i64 (gv zs a.toNat 2 false), .int .i64 0] := by
    simp only [List.map_cons, e, gv]
    rfl
  rw [e2] at h
  exact h

theorem getS21_2 {a l c g : Int} {zs : List Int} (ha : 0 ≤ a) (hl : l = zs.length) (hs : a + 2 ≤ l) (hm : l ≤ 4611686018427387904) (hb : ∀ i : Nat, i < 2 → 0 ≤ zs.getD (a.toNat + i) 0 ∧ zs.getD (a.toNat + i) 0 ≤ 255) :
    RetO Try.prog 21 [argR, .sx .i64 (.a 0), .v (.int .i64 2), .v (.bool true)] rowS sl0 (valG a l c (gv zs a.toNat 2 true) 2 g zs) (.tuple #[.int .i64 (gv zs a.toNat 2 true), .int .i64 0]) := by
  have e := num21_2 (c := c) (r := gv zs a.toNat 2 true) (g := g) ha hl hs hm hb
  have ht : TabOK Try.prog (valG a l c (gv zs a.toNat 2 true) 2 g zs) sl0 [(37, [.sx .i64 (.wrap .i64 (gch .u64 exG 2)), .v (.int .i64 16)], .sx .i64 (.a 3))] := by
    intro x hx
    simp only [List.mem_cons, List.not_mem_nil, or_false] at hx
    subst hx
    have hw := wrap_bounds .i64 (le (fun i => zs.getD (a.toNat + i) 0) 2)
    have q := signAll _ hw 16 (by omega) (by omega)
    rw [← e] at q
    have e3 : sgnF (SX.eval (valG a l c (gv zs a.toNat 2 true) 2 g zs) (.wrap .i64 (gch .u64 exG 2))) 16 = gv zs a.toNat 2 true := by rw [e]; rfl
    rw [e3] at q
    exact q
  have hF := fine11_2 (c := c) (r := gv zs a.toNat 2 true) (g := g) ha hl hs hm
  have h := retO_of hF (sla := sl0) (fuel := 1000) (f := 21) (args := [argR, .sx .i64 (.a 0), .v (.int .i64 2), .v (.bool true)]) (outs := rowS) (sh := [.i 0, .i 1]) (Y := [.a 3, .c 0]) (tabOK_sound hF (by kernel_rfl) (by kernel_rfl) ht) mix (wfRowC _ _) (by kernel_rfl) (by kernel_rfl)
  exact h

theorem getneg21_2 {a l c r g : Int} {zs : List Int} (hl : 0 ≤ l) (ha : a < 0) :
    RetO Try.prog 21 [argR, .sx .i64 (.a 0), .v (.int .i64 2), .sb (.eq (.a 5) (.c 1))] rowS sl0 (valG a l c r 2 g zs) (.tuple #[.int .i64 0, .int .i64 5]) := by
  have hF : Holds (valG a l c r 2 g zs) [.ge (.a 1) 0, .le (.a 0) (-1)] := holds_cons (show 0 ≤ l from hl) (holds_cons (show a ≤ -1 by omega) holds_nil)
  exact retO_of hF (sla := sl0) (fuel := 1000) (f := 21) (args := [argR, .sx .i64 (.a 0), .v (.int .i64 2), .sb (.eq (.a 5) (.c 1))]) (outs := rowS) (sh := [.i 0, .i 1]) (Y := [.c 0, .c 5]) (@noOrc_sound _ (symsOf _ _ _ _)) mix (wfRowS _) (by kernel_rfl) (by kernel_rfl)

theorem getfar21_2 {a l c r g : Int} {zs : List Int} (hl : 0 ≤ l) (ha : 0 ≤ a) (hf : l < a) :
    RetO Try.prog 21 [argR, .sx .i64 (.a 0), .v (.int .i64 2), .sb (.eq (.a 5) (.c 1))] rowS sl0 (valG a l c r 2 g zs) (.tuple #[.int .i64 0, .int .i64 5]) := by
  have hF : Holds (valG a l c r 2 g zs) [.ge (.a 1) 0, .ge (.a 0) 0, .at (.lt (.a 1) (.a 0)) true] := holds_cons (show 0 ≤ l from hl) (holds_cons (show 0 ≤ a from ha) (holds_cons (show decide (l < a) = true by simp; omega) holds_nil))
  exact retO_of hF (sla := sl0) (fuel := 1000) (f := 21) (args := [argR, .sx .i64 (.a 0), .v (.int .i64 2), .sb (.eq (.a 5) (.c 1))]) (outs := rowS) (sh := [.i 0, .i 1]) (Y := [.c 0, .c 5]) (@noOrc_sound _ (symsOf _ _ _ _)) mix (wfRowS _) (by kernel_rfl) (by kernel_rfl)

theorem getcut21_2 {a l c r g : Int} {zs : List Int} (_ : l ≤ 4611686018427387904) (ha : 0 ≤ a) (hf : a ≤ l) (hc : l - a < 2) :
    RetO Try.prog 21 [argR, .sx .i64 (.a 0), .v (.int .i64 2), .sb (.eq (.a 5) (.c 1))] rowS sl0 (valG a l c r 2 g zs) (.tuple #[.int .i64 0, .int .i64 9]) := by
  have hF : Holds (valG a l c r 2 g zs) [.ge (.a 1) 0, .ge (.a 0) 0, .at (.lt (.a 1) (.a 0)) false, .le (.wrap .i64 (.sub (.a 1) (.a 0))) 1] := holds_cons (show 0 ≤ l by omega) (holds_cons (show 0 ≤ a from ha) (holds_cons (show decide (l < a) = false by simp; omega) (holds_cons (show IntKind.i64.wrap (l - a) ≤ 1 by rw [wrapI]; omega) holds_nil)))
  exact retO_of hF (sla := sl0) (fuel := 1000) (f := 21) (args := [argR, .sx .i64 (.a 0), .v (.int .i64 2), .sb (.eq (.a 5) (.c 1))]) (outs := rowS) (sh := [.i 0, .i 1]) (Y := [.c 0, .c 9]) (@noOrc_sound _ (symsOf _ _ _ _)) mix (wfRowS _) (by kernel_rfl) (by kernel_rfl)

theorem nilneg21_2 {a c r g : Int} {zs : List Int} (oa : Option Addr) (cap : Nat) (ha : a < 0) :
    RetO Try.prog 21 [.osl 1, .sx .i64 (.a 0), .v (.int .i64 2), .sb (.eq (.a 5) (.c 1))] [] (fun _ => (oa, cap)) (valG a 0 c r 2 g zs) (.tuple #[.int .i64 0, .int .i64 5]) := by
  have hF : Holds (valG a 0 c r 2 g zs) [.is (.a 1) 0, .le (.a 0) (-1)] := holds_cons (show (0 : Int) = 0 from rfl) (holds_cons (show a ≤ -1 by omega) holds_nil)
  exact retO_of hF (sla := fun _ => (oa, cap)) (fuel := 1000) (f := 21) (args := [.osl 1, .sx .i64 (.a 0), .v (.int .i64 2), .sb (.eq (.a 5) (.c 1))]) (outs := []) (sh := [.i 0, .i 1]) (Y := [.c 0, .c 5]) (@noOrc_sound _ (symsOf _ _ _ _)) mix ⟨trivial, trivial, trivial, trivial, trivial⟩ (by kernel_rfl) (by kernel_rfl)

theorem nilfar21_2 {a c r g : Int} {zs : List Int} (oa : Option Addr) (cap : Nat) (ha : 0 < a) :
    RetO Try.prog 21 [.osl 1, .sx .i64 (.a 0), .v (.int .i64 2), .sb (.eq (.a 5) (.c 1))] [] (fun _ => (oa, cap)) (valG a 0 c r 2 g zs) (.tuple #[.int .i64 0, .int .i64 5]) := by
  have hF : Holds (valG a 0 c r 2 g zs) [.is (.a 1) 0, .ge (.a 0) 1] := holds_cons (show (0 : Int) = 0 from rfl) (holds_cons (show 1 ≤ a by omega) holds_nil)
  exact retO_of hF (sla := fun _ => (oa, cap)) (fuel := 1000) (f := 21) (args := [.osl 1, .sx .i64 (.a 0), .v (.int .i64 2), .sb (.eq (.a 5) (.c 1))]) (outs := []) (sh := [.i 0, .i 1]) (Y := [.c 0, .c 5]) (@noOrc_sound _ (symsOf _ _ _ _)) mix ⟨trivial, trivial, trivial, trivial, trivial⟩ (by kernel_rfl) (by kernel_rfl)

theorem nilcut21_2 {a c r g : Int} {zs : List Int} (oa : Option Addr) (cap : Nat) (ha : a = 0) :
    RetO Try.prog 21 [.osl 1, .sx .i64 (.a 0), .v (.int .i64 2), .sb (.eq (.a 5) (.c 1))] [] (fun _ => (oa, cap)) (valG a 0 c r 2 g zs) (.tuple #[.int .i64 0, .int .i64 9]) := by
  have hF : Holds (valG a 0 c r 2 g zs) [.is (.a 1) 0, .is (.a 0) 0] := holds_cons (show (0 : Int) = 0 from rfl) (holds_cons (show a = 0 from ha) holds_nil)
  exact retO_of hF (sla := fun _ => (oa, cap)) (fuel := 1000) (f := 21) (args := [.osl 1, .sx .i64 (.a 0), .v (.int .i64 2), .sb (.eq (.a 5) (.c 1))]) (outs := []) (sh := [.i 0, .i 1]) (Y := [.c 0, .c 9]) (@noOrc_sound _ (symsOf _ _ _ _)) mix ⟨trivial, trivial, trivial, trivial, trivial⟩ (by kernel_rfl) (by kernel_rfl)

theorem fine11_4 {a l c r g : Int} {zs : List Int} (ha : 0 ≤ a) (hl : l = zs.length) (hs : a + 4 ≤ l) (hm : l ≤ 4611686018427387904) : Holds (valG a l c r 4 g zs) [.ge (.a 1) 0, .ge (.a 0) 0, .at (.lt (.a 1) (.a 0)) false, .ge (.wrap .i64 (.sub (.a 1) (.a 0))) 4, .ge (exG 0) 0, .at (.lt (exG 0) (.a 1)) true, .ge (exG 1) 0, .at (.lt (exG 1) (.a 1)) true, .ge (exG 2) 0, .at (.lt (exG 2) (.a 1)) true, .ge (exG 3) 0, .at (.lt (exG 3) (.a 1)) true] := by
  have h1 : IntKind.i64.wrap (l - a) = l - a := by rw [wrapI]; omega
  have e0 : IntKind.i64.wrap (a + 0) = a + 0 := by rw [wrapI]; omega
  have e1 : IntKind.i64.wrap (a + 1) = a + 1 := by rw [wrapI]; omega
  have e2 : IntKind.i64.wrap (a + 2) = a + 2 := by rw [wrapI]; omega
  have e3 : IntKind.i64.wrap (a + 3) = a + 3 := by rw [wrapI]; omega
  refine holds_cons (show 0 ≤ l by omega) (holds_cons (show 0 ≤ a from ha) (holds_cons (show decide (l < a) = false by simp; omega) (holds_cons (show 4 ≤ IntKind.i64.wrap (l - a) by rw [h1]; omega) (holds_cons (show 0 ≤ IntKind.i64.wrap (a + 0) by rw [e0]; omega) (holds_cons (show decide (IntKind.i64.wrap (a + 0) < l) = true by rw [e0]; simp; omega) (holds_cons (show 0 ≤ IntKind.i64.wrap (a + 1) by rw [e1]; omega) (holds_cons (show decide (IntKind.i64.wrap (a + 1) < l) = true by rw [e1]; simp; omega) (holds_cons (show 0 ≤ IntKind.i64.wrap (a + 2) by rw [e2]; omega) (holds_cons (show decide (IntKind.i64.wrap (a + 2) < l) = true by rw [e2]; simp; omega) (holds_cons (show 0 ≤ IntKind.i64.wrap (a + 3) by rw [e3]; omega) (holds_cons (show decide (IntKind.i64.wrap (a + 3) < l) = true by rw [e3]; simp; omega) holds_nil)))))))))))

theorem num21_4 {a l c r g : Int} {zs : List Int} (ha : 0 ≤ a) (hl : l = zs.length) (hs : a + 4 ≤ l) (hm : l ≤ 4611686018427387904) (hb : ∀ i : Nat, i < 4 → 0 ≤ zs.getD (a.toNat + i) 0 ∧ zs.getD (a.toNat + i) 0 ≤ 255) :
    SX.eval (valG a l c r 4 g zs) (.wrap .i64 (gch .u64 exG 4)) = IntKind.i64.wrap (le (fun i => zs.getD (a.toNat + i) 0) 4) := by
  have he : ∀ i, i < 8 → valG a l c r 4 g zs (100 + ((exG i).eval (valG a l c r 4 g zs)).toNat) = zs.getD (a.toNat + i) 0 := by
    intro i hi
    have e : (exG i).eval (valG a l c r 4 g zs) = a + i := by
      show IntKind.i64.wrap (a + (i : Int)) = _
      rw [wrapI]; omega
    rw [e]
    show (if 100 + (a + (i : Int)).toNat < 100 then _ else zs.getD (100 + (a + (i : Int)).toNat - 100) 0) = _
    rw [if_neg (by omega)]
    congr 1
    omega
  have h := gch_eval .u64 rfl (valG a l c r 4 g zs) exG (fun i => zs.getD (a.toNat + i) 0) 4 (by omega) hb he 4 (Nat.le_refl _)
  show IntKind.i64.wrap ((gch .u64 exG 4).eval (valG a l c r 4 g zs)) = _
  rw [h]
  exact wrap_congr .i64 (wrap_mod .u64 _)

theorem getU21_4 {a l c r g : Int} {zs : List Int} (ha : 0 ≤ a) (hl : l = zs.length) (hs : a + 4 ≤ l) (hm : l ≤ 4611686018427387904) (hb : ∀ i : Nat, i < 4 → 0 ≤ zs.getD (a.toNat + i) 0 ∧ zs.getD (a.toNat + i) 0 ≤ 255) :
    RetO Try.prog 21 [argR, .sx .i64 (.a 0), .v (.int .i64 4), .v (.bool false)] rowS sl0 (valG a l c r 4 g zs) (.tuple #[.int .i64 (gv zs a.toNat 4 false), .int .i64 0]) := by
  have h := retO_of (fine11_4 (c := c) (r := r) (g := g) ha hl hs hm) (sla := sl0) (fuel := 1000) (f := 21) (args := [argR, .sx .i64 (.a 0), .v (.int .i64 4), .v (.bool false)]) (outs := rowS) (sh := [.i 0, .i 1]) (Y := [.wrap .i64 (gch .u64 exG 4), .c 0]) (@noOrc_sound _ (symsOf _ _ _ _)) mix (wfRowC _ _) (by kernel_rfl) (by kernel_rfl)
  have e := num21_4 (c := c) (r := r) (g := g) ha hl hs hm hb
  have e2 : shV [.i 0, .i 1] (List.map (SX.eval (valG a l c r 4 g zs)) [.wrap .i64 (gch .u64 exG 4), .c 0]) = .tuple #[.int .i64 (gv zs a.toNat 4 false), .int .i64 0] := by
    simp only [List.map_cons, e, gv]
    rfl
  rw [e2] at h
  exact h

theorem getS21_4 {a l c g : Int} {zs : List Int} (ha : 0 ≤ a) (hl : l = zs.length) (hs : a + 4 ≤ l) (hm : l ≤ 4611686018427387904) (hb : ∀ i : Nat, i < 4 → 0 ≤ zs.getD (a.toNat + i) 0 ∧ zs.getD (a.toNat + i) 0 ≤ 255) :
    RetO Try.prog 21 [argR, .sx .i64 (.a 0), .v (.int .i64 4), .v (.bool true)] rowS sl0 (valG a l c (gv zs a.toNat 4 true) 4 g zs) (.tuple #[.int .i64 (gv zs a.toNat 4 true), .int .i64 0]) := by
  have e := num21_4 (c := c) (r := gv zs a.toNat 4 true) (g := g) ha hl hs hm hb
  have ht : TabOK Try.prog (valG a l c (gv zs a.toNat 4 true) 4 g zs) sl0 [(37, [.sx .i64 (.wrap .i64 (gch .u64 exG 4)), .v (.int .i64 32)], .sx .i64 (.a 3))] := by
    intro x hx
    simp only [List.mem_cons, List.not_mem_nil, or_false] at hx
    subst hx
    have hw := wrap_bounds .i64 (le (fun i => zs.getD (a.toNat + i) 0) 4)
    have q := signAll _ hw 32 (by omega) (by omega)
    rw [← e] at q
    have e3 : sgnF (SX.eval (valG a l c (gv zs a.toNat 4 true) 4 g zs) (.wrap .i64 (gch .u64 exG 4))) 32 = gv zs a.toNat 4 true := by rw [e]; rfl
    rw [e3] at q
    exact q
  have hF := fine11_4 (c := c) (r := gv zs a.toNat 4 true) (g := g) ha hl hs hm
  have h := retO_of hF (sla := sl0) (fuel := 1000) (f := 21) (args := [argR, .sx .i64 (.a 0), .v (.int .i64 4), .v (.bool true)]) (outs := rowS) (sh := [.i 0, .i 1]) (Y := [.a 3, .c 0]) (tabOK_sound hF (by kernel_rfl) (by kernel_rfl) ht) mix (wfRowC _ _) (by kernel_rfl) (by kernel_rfl)
  exact h

theorem getneg21_4 {a l c r g : Int} {zs : List Int} (hl : 0 ≤ l) (ha : a < 0) :
    RetO Try.prog 21 [argR, .sx .i64 (.a 0), .v (.int .i64 4), .sb (.eq (.a 5) (.c 1))] rowS sl0 (valG a l c r 4 g zs) (.tuple #[.int .i64 0, .int .i64 5]) := by
  have hF : Holds (valG a l c r 4 g zs) [.ge (.a 1) 0, .le (.a 0) (-1)] := holds_cons (show 0 ≤ l from hl) (holds_cons (show a ≤ -1 by omega) holds_nil)
  exact retO_of hF (sla := sl0) (fuel := 1000) (f := 21) (args := [argR, .sx .i64 (.a 0), .v (.int .i64 4), .sb (.eq (.a 5) (.c 1))]) (outs := rowS) (sh := [.i 0, .i 1]) (Y := [.c 0, .c 5]) (@noOrc_sound _ (symsOf _ _ _ _)) mix (wfRowS _) (by kernel_rfl) (by kernel_rfl)

theorem getfar21_4 {a l c r g : Int} {zs : List Int} (hl : 0 ≤ l) (ha : 0 ≤ a) (hf : l < a) :
    RetO Try.prog 21 [argR, .sx .i64 (.a 0), .v (.int .i64 4), .sb (.eq (.a 5) (.c 1))] rowS sl0 (valG a l c r 4 g zs) (.tuple #[.int .i64 0, .int .i64 5]) := by
  have hF : Holds (valG a l c r 4 g zs) [.ge (.a 1) 0, .ge (.a 0) 0, .at (.lt (.a 1) (.a 0)) true] := holds_cons (show 0 ≤ l from hl) (holds_cons (show 0 ≤ a from ha) (holds_cons (show decide (l < a) = true by simp; omega) holds_nil))
  exact retO_of hF (sla := sl0) (fuel := 1000) (f := 21) (args := [argR, .sx .i64 (.a 0), .v (.int .i64 4), .sb (.eq (.a 5) (.c 1))]) (outs := rowS) (sh := [.i 0, .i 1]) (Y := [.c 0, .c 5]) (@noOrc_sound _ (symsOf _ _ _ _)) mix (wfRowS _) (by kernel_rfl) (by kernel_rfl)

theorem getcut21_4 {a l c r g : Int} {zs : List Int} (_ : l ≤ 4611686018427387904) (ha : 0 ≤ a) (hf : a ≤ l) (hc : l - a < 4) :
    RetO Try.prog 21 [argR, .sx .i64 (.a 0), .v (.int .i64 4), .sb (.eq (.a 5) (.c 1))] rowS sl0 (valG a l c r 4 g zs) (.tuple #[.int .i64 0, .int .i64 9]) := by
  have hF : Holds (valG a l c r 4 g zs) [.ge (.a 1) 0, .ge (.a 0) 0, .at (.lt (.a 1) (.a 0)) false, .le (.wrap .i64 (.sub (.a 1) (.a 0))) 3] := holds_cons (show 0 ≤ l by omega) (holds_cons (show 0 ≤ a from ha) (holds_cons (show decide (l < a) = false by simp; omega) (holds_cons (show IntKind.i64.wrap (l - a) ≤ 3 by rw [wrapI]; omega) holds_nil)))
  exact retO_of hF (sla := sl0) (fuel := 1000) (f := 21) (args := [argR, .sx .i64 (.a 0), .v (.int .i64 4), .sb (.eq (.a 5) (.c 1))]) (outs := rowS) (sh := [.i 0, .i 1]) (Y := [.c 0, .c 9]) (@noOrc_sound _ (symsOf _ _ _ _)) mix (wfRowS _) (by kernel_rfl) (by kernel_rfl)

theorem nilneg21_4 {a c r g : Int} {zs : List Int} (oa : Option Addr) (cap : Nat) (ha : a < 0) :
    RetO Try.prog 21 [.osl 1, .sx .i64 (.a 0), .v (.int .i64 4), .sb (.eq (.a 5) (.c 1))] [] (fun _ => (oa, cap)) (valG a 0 c r 4 g zs) (.tuple #[.int .i64 0, .int .i64 5]) := by
  have hF : Holds (valG a 0 c r 4 g zs) [.is (.a 1) 0, .le (.a 0) (-1)] := holds_cons (show (0 : Int) = 0 from rfl) (holds_cons (show a ≤ -1 by omega) holds_nil)
  exact retO_of hF (sla := fun _ => (oa, cap)) (fuel := 1000) (f := 21) (args := [.osl 1, .sx .i64 (.a 0), .v (.int .i64 4), .sb (.eq (.a 5) (.c 1))]) (outs := []) (sh := [.i 0, .i 1]) (Y := [.c 0, .c 5]) (@noOrc_sound _ (symsOf _ _ _ _)) mix ⟨trivial, trivial, trivial, trivial, trivial⟩ (by kernel_rfl) (by kernel_rfl)

theorem nilfar21_4 {a c r g : Int} {zs : List Int} (oa : Option Addr) (cap : Nat) (ha : 0 < a) :
    RetO Try.prog 21 [.osl 1, .sx .i64 (.a 0), .v (.int .i64 4), .sb (.eq (.a 5) (.c 1))] [] (fun _ => (oa, cap)) (valG a 0 c r 4 g zs) (.tuple #[.int .i64 0, .int .i64 5]) := by
  have hF : Holds (valG a 0 c r 4 g zs) [.is (.a 1) 0, .ge (.a 0) 1] := holds_cons (show (0 : Int) = 0 from rfl) (holds_cons (show 1 ≤ a by omega) holds_nil)
  exact retO_of hF (sla := fun _ => (oa, cap)) (fuel := 1000) (f := 21) (args := [.osl 1, .sx .i64 (.a 0), .v (.int .i64 4), .sb (.eq (.a 5) (.c 1))]) (outs := []) (sh := [.i 0, .i 1]) (Y := [.c 0, .c 5]) (@noOrc_sound _ (symsOf _ _ _ _)) mix ⟨trivial, trivial, trivial, trivial, trivial⟩ (by kernel_rfl) (by kernel_rfl)

theorem nilcut21_4 {a c r g : Int} {zs : List Int} (oa : Option Addr) (cap : Nat) (ha : a = 0) :
    RetO Try.prog 21 [.osl 1, .sx .i64 (.a 0), .v (.int .i64 4), .sb (.eq (.a 5) (.c 1))] [] (fun _ => (oa, cap)) (valG a 0 c r 4 g zs) (.tuple #[.int .i64 0, .int .i64 9]) := by
  have hF : Holds (valG a 0 c r 4 g zs) [.is (.a 1) 0, .is (.a 0) 0] := holds_cons (show (0 : Int) = 0 from rfl) (holds_cons (show a = 0 from ha) holds_nil)
  exact retO_of hF (sla := fun _ => (oa, cap)) (fuel := 1000) (f := 21) (args := [.osl 1, .sx .i64 (.a 0), .v (.int .i64 4), .sb (.eq (.a 5) (.c 1))]) (outs := []) (sh := [.i 0, .i 1]) (Y := [.c 0, .c 9]) (@noOrc_sound _ (symsOf _ _ _ _)) mix ⟨trivial, trivial, trivial, trivial, trivial⟩ (by kernel_rfl) (by kernel_rfl)

theorem fine11_8 {a l c r g : Int} {zs : List Int} (ha : 0 ≤ a) (hl : l = zs.length) (hs : a + 8 ≤ l) (hm : l ≤ 4611686018427387904) : Holds (valG a l c r 8 g zs) [.ge (.a 1) 0, .ge (.a 0) 0, .at (.lt (.a 1) (.a 0)) false, .ge (.wrap .i64 (.sub (.a 1) (.a 0))) 8, .ge (exG 0) 0, .at (.lt (exG 0) (.a 1)) true, .ge (exG 1) 0, .at (.lt (exG 1) (.a 1)) true, .ge (exG 2) 0, .at (.lt (exG 2) (.a 1)) true, .ge (exG 3) 0, .at (.lt (exG 3) (.a 1)) true, .ge (exG 4) 0, .at (.lt (exG 4) (.a 1)) true, .ge (exG 5) 0, .at (.lt (exG 5) (.a 1)) true, .ge (exG 6) 0, .at (.lt (exG 6) (.a 1)) true, .ge (exG 7) 0, .at (.lt (exG 7) (.a 1)) true] := by
  have h1 : IntKind.i64.wrap (l - a) = l - a := by rw [wrapI]; omega
  have e0 : IntKind.i64.wrap (a + 0) = a + 0 := by rw [wrapI]; omega
  have e1 : IntKind.i64.wrap (a + 1) = a + 1 := by rw [wrapI]; omega
  have e2 : IntKind.i64.wrap (a + 2) = a + 2 := by rw [wrapI]; omega
  have e3 : IntKind.i64.wrap (a + 3) = a + 3 := by rw [wrapI]; omega
  have e4 : IntKind.i64.wrap (a + 4) = a + 4 := by rw [wrapI]; omega
  have e5 : IntKind.i64.wrap (a + 5) = a + 5 := by rw [wrapI]; omega
  have e6 : IntKind.i64.wrap (a + 6) = a + 6 := by rw [wrapI]; omega
  have e7 : IntKind.i64.wrap (a + 7) = a + 7 := by rw [wrapI]; omega
  refine holds_cons (show 0 ≤ l by omega) (holds_cons (show 0 ≤ a from ha) (holds_cons (show decide (l < a) = false by simp; omega) (holds_cons (show 8 ≤ IntKind.i64.wrap (l - a) by rw [h1]; omega) (holds_cons (show 0 ≤ IntKind.i64.wrap (a + 0) by rw [e0]; omega) (holds_cons (show decide (IntKind.i64.wrap (a + 0) < l) = true by rw [e0]; simp; omega) (holds_cons (show 0 ≤ IntKind.i64.wrap (a + 1) by rw [e1]; omega) (holds_cons (show decide (IntKind.i64.wrap (a + 1) < l) = true by rw [e1]; simp; omega) (holds_cons (show 0 ≤ IntKind.i64.wrap (a + 2) by rw [e2]; omega) (holds_cons (show decide (IntKind.i64.wrap (a + 2) < l) = true by rw [e2]; simp; omega) (holds_cons (show 0 ≤ IntKind.i64.wrap (a + 3) by rw [e3]; omega) (holds_cons (show decide (IntKind.i64.wrap (a + 3) < l) = true by rw [e3]; simp; omega) (holds_cons (show 0 ≤ IntKind.i64.wrap (a + 4) by rw [e4]; omega) (holds_cons (show decide (IntKind.i64.wrap (a + 4) < l) = true by rw [e4]; simp; omega) (holds_cons (show 0 ≤ IntKind.i64.wrap (a + 5) by rw [e5]; omega) (holds_cons (show decide (IntKind.i64.wrap (a + 5) < l) = true by rw [e5]; simp; omega) (holds_cons (show 0 ≤ IntKind.i64.wrap (a + 6) by rw [e6]; omega) (holds_cons (show decide (IntKind.i64.wrap (a + 6) < l) = true by rw [e6]; simp; omega) (holds_cons (show 0 ≤ IntKind.i64.wrap (a + 7) by rw [e7]; omega) (holds_cons (show decide (IntKind.i64.wrap (a + 7) < l) = true by rw [e7]; simp; omega) holds_nil)))))))))))))))))))

theorem num21_8 {a l c r g : Int} {zs : List Int} (ha : 0 ≤ a) (hl : l = zs.length) (hs : a + 8 ≤ l) (hm : l ≤ 4611686018427387904) (hb : ∀ i : Nat, i < 8 → 0 ≤ zs.getD (a.toNat + i) 0 ∧ zs.getD (a.toNat + i) 0 ≤ 255) :
    SX.eval (valG a l c r 8 g zs) (.wrap .i64 (gch .u64 exG 8)) = IntKind.i64.wrap (le (fun i => zs.getD (a.toNat + i) 0) 8) := by
  have he : ∀ i, i < 8 → valG a l c r 8 g zs (100 + ((exG i).eval (valG a l c r 8 g zs)).toNat) = zs.getD (a.toNat + i) 0 := by
    intro i hi
    have e : (exG i).eval (valG a l c r 8 g zs) = a + i := by
      show IntKind.i64.wrap (a + (i : Int)) = _
      rw [wrapI]; omega
    rw [e]
    show (if 100 + (a + (i : Int)).toNat < 100 then _ else zs.getD (100 + (a + (i : Int)).toNat - 100) 0) = _
    rw [if_neg (by omega)]
    congr 1
    omega
  have h := gch_eval .u64 rfl (valG a l c r 8 g zs) exG (fun i => zs.getD (a.toNat + i) 0) 8 (by omega) hb he 8 (Nat.le_refl _)
  show IntKind.i64.wrap ((gch .u64 exG 8).eval (valG a l c r 8 g zs)) = _
  rw [h]
  exact wrap_congr .i64 (wrap_mod .u64 _)

theorem getU21_8 {a l c r g : Int} {zs : List Int} (ha : 0 ≤ a) (hl : l = zs.length) (hs : a + 8 ≤ l) (hm : l ≤ 4611686018427387904) (hb : ∀ i : Nat, i < 8 → 0 ≤ zs.getD (a.toNat + i) 0 ∧ zs.getD (a.toNat + i) 0 ≤ 255) :
    RetO Try.prog 21 [argR, .sx .i64 (.a 0), .v (.int .i64 8), .v (.bool false)] rowS sl0 (valG a l c r 8 g zs) (.tuple #[.int .i64 (gv zs a.toNat 8 false), .int .i64 0]) := by
  have h := retO_of (fine11_8 (c := c) (r := r) (g := g) ha hl hs hm) (sla := sl0) (fuel := 1000) (f := 21) (args := [argR, .sx .i64 (.a 0), .v (.int .i64 8), .v (.bool false)]) (outs := rowS) (sh := [.i 0, .i 1]) (Y := [.wrap .i64 (gch .u64 exG 8), .c 0]) (@noOrc_sound _ (symsOf _ _ _ _)) mix (wfRowC _ _) (by kernel_rfl) (by kernel_rfl)
  have e := num21_8 (c := c) (r := r) (g := g) ha hl hs hm hb
  have e2 : shV [.i 0, .i 1] (List.map (SX.eval (valG a l c r 8 g zs)) [.wrap .i64 (gch .u64 exG 8), .c 0]) = .tuple #[.int .i64 (gv zs a.toNat 8 false), .int .i64 0] := by
    simp only [List.map_cons, e, gv]
    rfl
  rw [e2] at h
  exact h

theorem getS21_8 {a l c g : Int} {zs : List Int} (ha : 0 ≤ a) (hl : l = zs.length) (hs : a + 8 ≤ l) (hm : l ≤ 4611686018427387904) (hb : ∀ i : Nat, i < 8 → 0 ≤ zs.getD (a.toNat + i) 0 ∧ zs.getD (a.toNat + i) 0 ≤ 255) :
    RetO Try.prog 21 [argR, .sx .i64 (.a 0), .v (.int .i64 8), .v (.bool true)] rowS sl0 (valG a l c (gv zs a.toNat 8 true) 8 g zs) (.tuple #[.int .i64 (gv zs a.toNat 8 true), .int .i64 0]) := by
  have e := num21_8 (c := c) (r := gv zs a.toNat 8 true) (g := g) ha hl hs hm hb
  have ht : TabOK Try.prog (valG a l c (gv zs a.toNat 8 true) 8 g zs) sl0 [(37, [.sx .i64 (.wrap .i64 (gch .u64 exG 8)), .v (.int .i64 64)], .sx .i64 (.a 3))] := by
    intro x hx
    simp only [List.mem_cons, List.not_mem_nil, or_false] at hx
    subst hx
    have hw := wrap_bounds .i64 (le (fun i => zs.getD (a.toNat + i) 0) 8)
    have q := signAll _ hw 64 (by omega) (by omega)
    rw [← e] at q
    have e3 : sgnF (SX.eval (valG a l c (gv zs a.toNat 8 true) 8 g zs) (.wrap .i64 (gch .u64 exG 8))) 64 = gv zs a.toNat 8 true := by rw [e]; rfl
    rw [e3] at q
    exact q
  have hF := fine11_8 (c := c) (r := gv zs a.toNat 8 true) (g := g) ha hl hs hm
  have h := retO_of hF (sla := sl0) (fuel := 1000) (f := 21) (args := [argR, .sx .i64 (.a 0), .v (.int .i64 8), .v (.bool true)]) (outs := rowS) (sh := [.i 0, .i 1]) (Y := [.a 3, .c 0]) (tabOK_sound hF (by kernel_rfl) (by kernel_rfl) ht) mix (wfRowC _ _) (by kernel_rfl) (by kernel_rfl)
  exact h

theorem getneg21_8 {a l c r g : Int} {zs : List Int} (hl : 0 ≤ l) (ha : a < 0) :
    RetO Try.prog 21 [argR, .sx .i64 (.a 0), .v (.int .i64 8), .sb (.eq (.a 5) (.c 1))] rowS sl0 (valG a l c r 8 g zs) (.tuple #[.int .i64 0, .int .i64 5]) := by
  have hF : Holds (valG a l c r 8 g zs) [.ge (.a 1) 0, .le (.a 0) (-1)] := holds_cons (show 0 ≤ l from hl) (holds_cons (show a ≤ -1 by omega) holds_nil)
  exact retO_of hF (sla := sl0) (fuel := 1000) (f := 21) (args := [argR, .sx .i64 (.a 0), .v (.int .i64 8), .sb (.eq (.a 5) (.c 1))]) (outs := rowS) (sh := [.i 0, .i 1]) (Y := [.c 0, .c 5]) (@noOrc_sound _ (symsOf _ _ _ _)) mix (wfRowS _) (by kernel_rfl) (by kernel_rfl)

theorem getfar21_8 {a l c r g : Int} {zs : List Int} (hl : 0 ≤ l) (ha : 0 ≤ a) (hf : l < a) :
    RetO Try.prog 21 [argR, .sx .i64 (.a 0), .v (.int .i64 8), .sb (.eq (.a 5) (.c 1))] rowS sl0 (valG a l c r 8 g zs) (.tuple #[.int .i64 0, .int .i64 5]) := by
  have hF : Holds (valG a l c r 8 g zs) [.ge (.a 1) 0, .ge (.a 0) 0, .at (.lt (.a 1) (.a 0)) true] := holds_cons (show 0 ≤ l from hl) (holds_cons (show 0 ≤ a from ha) (holds_cons (show decide (l < a) = true by simp; omega) holds_nil))
  exact retO_of hF (sla := sl0) (fuel := 1000) (f := 21) (args := [argR, .sx .i64 (.a 0), .v (.int .i64 8), .sb (.eq (.a 5) (.c 1))]) (outs := rowS) (sh := [.i 0, .i 1]) (Y := [.c 0, .c 5]) (@noOrc_sound _ (symsOf _ _ _ _)) mix (wfRowS _) (by kernel_rfl) (by kernel_rfl)

theorem getcut21_8 {a l c r g : Int} {zs : List Int} (_ : l ≤ 4611686018427387904) (ha : 0 ≤ a) (hf : a ≤ l) (hc : l - a < 8) :
    RetO Try.prog 21 [argR, .sx .i64 (.a 0), .v (.int .i64 8), .sb (.eq (.a 5) (.c 1))] rowS sl0 (valG a l c r 8 g zs) (.tuple #[.int .i64 0, .int .i64 9]) := by
  have hF : Holds (valG a l c r 8 g zs) [.ge (.a 1) 0, .ge (.a 0) 0, .at (.lt (.a 1) (.a 0)) false, .le (.wrap .i64 (.sub (.a 1) (.a 0))) 7] := holds_cons (show 0 ≤ l by omega) (holds_cons (show 0 ≤ a from ha) (holds_cons (show decide (l < a) = false by simp; omega) (holds_cons (show IntKind.i64.wrap (l - a) ≤ 7 by rw [wrapI]; omega) holds_nil)))
  exact retO_of hF (sla := sl0) (fuel := 1000) (f := 21) (args := [argR, .sx .i64 (.a 0), .v (.int .i64 8), .sb (.eq (.a 5) (.c 1))]) (outs := rowS) (sh := [.i 0, .i 1]) (Y := [.c 0, .c 9]) (@noOrc_sound _ (symsOf _ _ _ _)) mix (wfRowS _) (by kernel_rfl) (by kernel_rfl)

theorem nilneg21_8 {a c r g : Int} {zs : List Int} (oa : Option Addr) (cap : Nat) (ha : a < 0) :
    RetO Try.prog 21 [.osl 1, .sx .i64 (.a 0), .v (.int .i64 8), .sb (.eq (.a 5) (.c 1))] [] (fun _ => (oa, cap)) (valG a 0 c r 8 g zs) (.tuple #[.int .i64 0, .int .i64 5]) := by
  have hF : Holds (valG a 0 c r 8 g zs) [.is (.a 1) 0, .le (.a 0) (-1)] := holds_cons (show (0 : Int) = 0 from rfl) (holds_cons (show a ≤ -1 by omega) holds_nil)
  exact retO_of hF (sla := fun _ => (oa, cap)) (fuel := 1000) (f := 21) (args := [.osl 1, .sx .i64 (.a 0), .v (.int .i64 8), .sb (.eq (.a 5) (.c 1))]) (outs := []) (sh := [.i 0, .i 1]) (Y := [.c 0, .c 5]) (@noOrc_sound _ (symsOf _ _ _ _)) mix ⟨trivial, trivial, trivial, trivial, trivial⟩ (by kernel_rfl) (by kernel_rfl)

theorem nilfar21_8 {a c r g : Int} {zs : List Int} (oa : Option Addr) (cap : Nat) (ha : 0 < a) :
    RetO Try.prog 21 [.osl 1, .sx .i64 (.a 0), .v (.int .i64 8), .sb (.eq (.a 5) (.c 1))] [] (fun _ => (oa, cap)) (valG a 0 c r 8 g zs) (.tuple #[.int .i64 0, .int .i64 5]) := by
  have hF : Holds (valG a 0 c r 8 g zs) [.is (.a 1) 0, .ge (.a 0) 1] := holds_cons (show (0 : Int) = 0 from rfl) (holds_cons (show 1 ≤ a by omega) holds_nil)
  exact retO_of hF (sla := fun _ => (oa, cap)) (fuel := 1000) (f := 21) (args := [.osl 1, .sx .i64 (.a 0), .v (.int .i64 8), .sb (.eq (.a 5) (.c 1))]) (outs := []) (sh := [.i 0, .i 1]) (Y := [.c 0, .c 5]) (@noOrc_sound _ (symsOf _ _ _ _)) mix ⟨trivial, trivial, trivial, trivial, trivial⟩ (by kernel_rfl) (by kernel_rfl)

theorem nilcut21_8 {a c r g : Int} {zs : List Int} (oa : Option Addr) (cap : Nat) (ha : a = 0) :
    RetO Try.prog 21 [.osl 1, .sx .i64 (.a 0), .v (.int .i64 8), .sb (.eq (.a 5) (.c 1))] [] (fun _ => (oa, cap)) (valG a 0 c r 8 g zs) (.tuple #[.int .i64 0, .int .i64 9]) := by
  have hF : Holds (valG a 0 c r 8 g zs) [.is (.a 1) 0, .is (.a 0) 0] := holds_cons (show (0 : Int) = 0 from rfl) (holds_cons (show a = 0 from ha) holds_nil)
  exact retO_of hF (sla := fun _ => (oa, cap)) (fuel := 1000) (f := 21) (args := [.osl 1, .sx .i64 (.a 0), .v (.int .i64 8), .sb (.eq (.a 5) (.c 1))]) (outs := []) (sh := [.i 0, .i 1]) (Y := [.c 0, .c 9]) (@noOrc_sound _ (symsOf _ _ _ _)) mix ⟨trivial, trivial, trivial, trivial, trivial⟩ (by kernel_rfl) (by kernel_rfl)

theorem getno21 {a l c r s g : Int} {zs : List Int} (h1 : ¬ isSize s) :
    RetO Try.prog 21 [argR, .sx .i64 (.a 0), .sx .i64 (.a 4), .sb (.eq (.a 5) (.c 1))] rowS sl0 (valG a l c r s g zs) (.tuple #[.int .i64 0, .int .i64 2]) := by
  unfold isSize at h1
  have hF : Holds (valG a l c r s g zs) [.ne (.a 4) 1, .ne (.a 4) 2, .ne (.a 4) 4, .ne (.a 4) 8] := holds_cons (show s ≠ 1 by omega) (holds_cons (show s ≠ 2 by omega) (holds_cons (show s ≠ 4 by omega) (holds_cons (show s ≠ 8 by omega) holds_nil)))
  exact retO_of hF (sla := sl0) (fuel := 1000) (f := 21) (args := [argR, .sx .i64 (.a 0), .sx .i64 (.a 4), .sb (.eq (.a 5) (.c 1))]) (outs := rowS) (sh := [.i 0, .i 1]) (Y := [.c 0, .c 2]) (@noOrc_sound _ (symsOf _ _ _ _)) mix wfRow (by kernel_rfl) (by kernel_rfl)

theorem getnilno21 {a l c r s g : Int} {zs : List Int} (oa : Option Addr) (cap : Nat) (h1 : ¬ isSize s) :
    RetO Try.prog 21 [.osl 1, .sx .i64 (.a 0), .sx .i64 (.a 4), .sb (.eq (.a 5) (.c 1))] [] (fun _ => (oa, cap)) (valG a l c r s g zs) (.tuple #[.int .i64 0, .int .i64 2]) := by
  unfold isSize at h1
  have hF : Holds (valG a l c r s g zs) [.ne (.a 4) 1, .ne (.a 4) 2, .ne (.a 4) 4, .ne (.a 4) 8] := holds_cons (show s ≠ 1 by omega) (holds_cons (show s ≠ 2 by omega) (holds_cons (show s ≠ 4 by omega) (holds_cons (show s ≠ 8 by omega) holds_nil)))
  exact retO_of hF (sla := (fun _ => (oa, cap))) (fuel := 1000) (f := 21) (args := [.osl 1, .sx .i64 (.a 0), .sx .i64 (.a 4), .sb (.eq (.a 5) (.c 1))]) (outs := []) (sh := [.i 0, .i 1]) (Y := [.c 0, .c 2]) (@noOrc_sound _ (symsOf _ _ _ _)) mix ⟨trivial, trivial, trivial, trivial, trivial⟩ (by kernel_rfl) (by kernel_rfl)

set_option maxHeartbeats 1000000 in
/-- What the call gives, of any slice of bytes. -/
theorem get21w (w : World) (v : Value) (zs : List Int) (a s : Int) (g : Bool) (hb : ∀ i : Nat, i < s.toNat → 0 ≤ zs.getD (a.toNat + i) 0 ∧ zs.getD (a.toNat + i) 0 ≤ 255) (hm : (zs.length : Int) ≤ 4611686018427387904) (h : SliceOf w .u8 v zs) :
    Calls Try.prog 21 #[v, .int .i64 a, .int .i64 s, .bool g] w fun e w' => e = .returned (.tuple #[.int .i64 (getN zs a s g).1, .int .i64 (getN zs a s g).2]) ∧ RowKit.Below w.heap.size w w' := by
  rcases h with ⟨rfl, oa, cap, rfl⟩ | ⟨b, off, cap, h0, rfl, hcap, hlt, hc⟩
  · by_cases hs : isSize s
    · unfold getN
      rw [if_pos hs]
      simp only [List.length_nil, Int.natCast_zero] at *
      rcases hs with rfl | rfl | rfl | rfl
      · rcases Int.lt_trichotomy a 0 with hn | hn | hn
        · rw [if_pos (.inl hn)]
          have r := nilneg21_1 (zs := []) (c := 0) (r := 0) (g := if g then 1 else 0) oa cap hn E0 w (noOut _ _)
          rw [argsE, oslE] at r
          exact r
        · rw [if_neg (by omega), if_pos (by omega)]
          have r := nilcut21_1 (zs := []) (c := 0) (r := 0) (g := if g then 1 else 0) oa cap hn E0 w (noOut _ _)
          rw [argsE, oslE] at r
          exact r
        · rw [if_pos (.inr hn)]
          have r := nilfar21_1 (zs := []) (c := 0) (r := 0) (g := if g then 1 else 0) oa cap hn E0 w (noOut _ _)
          rw [argsE, oslE] at r
          exact r
      · rcases Int.lt_trichotomy a 0 with hn | hn | hn
        · rw [if_pos (.inl hn)]
          have r := nilneg21_2 (zs := []) (c := 0) (r := 0) (g := if g then 1 else 0) oa cap hn E0 w (noOut _ _)
          rw [argsE, oslE] at r
          exact r
        · rw [if_neg (by omega), if_pos (by omega)]
          have r := nilcut21_2 (zs := []) (c := 0) (r := 0) (g := if g then 1 else 0) oa cap hn E0 w (noOut _ _)
          rw [argsE, oslE] at r
          exact r
        · rw [if_pos (.inr hn)]
          have r := nilfar21_2 (zs := []) (c := 0) (r := 0) (g := if g then 1 else 0) oa cap hn E0 w (noOut _ _)
          rw [argsE, oslE] at r
          exact r
      · rcases Int.lt_trichotomy a 0 with hn | hn | hn
        · rw [if_pos (.inl hn)]
          have r := nilneg21_4 (zs := []) (c := 0) (r := 0) (g := if g then 1 else 0) oa cap hn E0 w (noOut _ _)
          rw [argsE, oslE] at r
          exact r
        · rw [if_neg (by omega), if_pos (by omega)]
          have r := nilcut21_4 (zs := []) (c := 0) (r := 0) (g := if g then 1 else 0) oa cap hn E0 w (noOut _ _)
          rw [argsE, oslE] at r
          exact r
        · rw [if_pos (.inr hn)]
          have r := nilfar21_4 (zs := []) (c := 0) (r := 0) (g := if g then 1 else 0) oa cap hn E0 w (noOut _ _)
          rw [argsE, oslE] at r
          exact r
      · rcases Int.lt_trichotomy a 0 with hn | hn | hn
        · rw [if_pos (.inl hn)]
          have r := nilneg21_8 (zs := []) (c := 0) (r := 0) (g := if g then 1 else 0) oa cap hn E0 w (noOut _ _)
          rw [argsE, oslE] at r
          exact r
        · rw [if_neg (by omega), if_pos (by omega)]
          have r := nilcut21_8 (zs := []) (c := 0) (r := 0) (g := if g then 1 else 0) oa cap hn E0 w (noOut _ _)
          rw [argsE, oslE] at r
          exact r
        · rw [if_pos (.inr hn)]
          have r := nilfar21_8 (zs := []) (c := 0) (r := 0) (g := if g then 1 else 0) oa cap hn E0 w (noOut _ _)
          rw [argsE, oslE] at r
          exact r
    · unfold getN
      rw [if_neg hs]
      have r := getnilno21 (a := a) (l := 0) (c := 0) (r := 0) (g := if g then 1 else 0) (zs := []) oa cap hs E0 w (noOut _ _)
      rw [argsN, oslE] at r
      exact r
  · have hv : ∀ (r q : Int), @conc (nameS (valG a zs.length cap r s q zs) sl0) ⟨fun _ => b, fun _ => off⟩ argR = .slice (some ⟨b, off, none⟩) zs.length cap := by
      intro r q
      rw [@ry0_conc _ (nameS (valG a zs.length cap r s q zs) sl0)]
      rfl
    have ho : ∀ (r q : Int), @OutOK (nameS (valG a zs.length cap r s q zs) sl0) ⟨fun _ => b, fun _ => off⟩ w rowS := fun r q => rowOut (val := valG a zs.length cap r s q zs) hlt rfl (fun i _ => by
      show (if 100 + i < 100 then _ else zs.getD (100 + i - 100) 0) = _
      rw [if_neg (by omega)]
      congr 1
      omega) hc
    by_cases hs : isSize s
    · unfold getN
      rw [if_pos hs]
      rcases hs with rfl | rfl | rfl | rfl
      · by_cases h1 : a < 0
        · rw [if_pos (.inl h1)]
          have r := getneg21_1 (zs := zs) (c := cap) (r := 0) (g := if g then 1 else 0) (Int.natCast_nonneg zs.length) h1 _ w (ho _ _)
          rw [argsE, hv] at r
          exact r
        · by_cases h2 : (zs.length : Int) < a
          · rw [if_pos (.inr h2)]
            have r := getfar21_1 (zs := zs) (c := cap) (r := 0) (g := if g then 1 else 0) (Int.natCast_nonneg zs.length) (by omega) h2 _ w (ho _ _)
            rw [argsE, hv] at r
            exact r
          · rw [if_neg (by omega)]
            by_cases h3 : (zs.length : Int) - a < 1
            · rw [if_pos h3]
              have r := getcut21_1 (zs := zs) (c := cap) (r := 0) (g := if g then 1 else 0) hm (by omega) (by omega) h3 _ w (ho _ _)
              rw [argsE, hv] at r
              exact r
            · rw [if_neg h3]
              cases g with
              | false =>
                have r := getU21_1 (c := cap) (r := 0) (g := 0) (zs := zs) (by omega) rfl (by omega) hm hb _ w (ho _ _)
                rw [argsC, hv] at r
                exact r
              | true =>
                have r := getS21_1 (c := cap) (g := 0) (zs := zs) (by omega) rfl (by omega) hm hb _ w (ho _ _)
                rw [argsC, hv] at r
                exact r
      · by_cases h1 : a < 0
        · rw [if_pos (.inl h1)]
          have r := getneg21_2 (zs := zs) (c := cap) (r := 0) (g := if g then 1 else 0) (Int.natCast_nonneg zs.length) h1 _ w (ho _ _)
          rw [argsE, hv] at r
          exact r
        · by_cases h2 : (zs.length : Int) < a
          · rw [if_pos (.inr h2)]
            have r := getfar21_2 (zs := zs) (c := cap) (r := 0) (g := if g then 1 else 0) (Int.natCast_nonneg zs.length) (by omega) h2 _ w (ho _ _)
            rw [argsE, hv] at r
            exact r
          · rw [if_neg (by omega)]
            by_cases h3 : (zs.length : Int) - a < 2
            · rw [if_pos h3]
              have r := getcut21_2 (zs := zs) (c := cap) (r := 0) (g := if g then 1 else 0) hm (by omega) (by omega) h3 _ w (ho _ _)
              rw [argsE, hv] at r
              exact r
            · rw [if_neg h3]
              cases g with
              | false =>
                have r := getU21_2 (c := cap) (r := 0) (g := 0) (zs := zs) (by omega) rfl (by omega) hm hb _ w (ho _ _)
                rw [argsC, hv] at r
                exact r
              | true =>
                have r := getS21_2 (c := cap) (g := 0) (zs := zs) (by omega) rfl (by omega) hm hb _ w (ho _ _)
                rw [argsC, hv] at r
                exact r
      · by_cases h1 : a < 0
        · rw [if_pos (.inl h1)]
          have r := getneg21_4 (zs := zs) (c := cap) (r := 0) (g := if g then 1 else 0) (Int.natCast_nonneg zs.length) h1 _ w (ho _ _)
          rw [argsE, hv] at r
          exact r
        · by_cases h2 : (zs.length : Int) < a
          · rw [if_pos (.inr h2)]
            have r := getfar21_4 (zs := zs) (c := cap) (r := 0) (g := if g then 1 else 0) (Int.natCast_nonneg zs.length) (by omega) h2 _ w (ho _ _)
            rw [argsE, hv] at r
            exact r
          · rw [if_neg (by omega)]
            by_cases h3 : (zs.length : Int) - a < 4
            · rw [if_pos h3]
              have r := getcut21_4 (zs := zs) (c := cap) (r := 0) (g := if g then 1 else 0) hm (by omega) (by omega) h3 _ w (ho _ _)
              rw [argsE, hv] at r
              exact r
            · rw [if_neg h3]
              cases g with
              | false =>
                have r := getU21_4 (c := cap) (r := 0) (g := 0) (zs := zs) (by omega) rfl (by omega) hm hb _ w (ho _ _)
                rw [argsC, hv] at r
                exact r
              | true =>
                have r := getS21_4 (c := cap) (g := 0) (zs := zs) (by omega) rfl (by omega) hm hb _ w (ho _ _)
                rw [argsC, hv] at r
                exact r
      · by_cases h1 : a < 0
        · rw [if_pos (.inl h1)]
          have r := getneg21_8 (zs := zs) (c := cap) (r := 0) (g := if g then 1 else 0) (Int.natCast_nonneg zs.length) h1 _ w (ho _ _)
          rw [argsE, hv] at r
          exact r
        · by_cases h2 : (zs.length : Int) < a
          · rw [if_pos (.inr h2)]
            have r := getfar21_8 (zs := zs) (c := cap) (r := 0) (g := if g then 1 else 0) (Int.natCast_nonneg zs.length) (by omega) h2 _ w (ho _ _)
            rw [argsE, hv] at r
            exact r
          · rw [if_neg (by omega)]
            by_cases h3 : (zs.length : Int) - a < 8
            · rw [if_pos h3]
              have r := getcut21_8 (zs := zs) (c := cap) (r := 0) (g := if g then 1 else 0) hm (by omega) (by omega) h3 _ w (ho _ _)
              rw [argsE, hv] at r
              exact r
            · rw [if_neg h3]
              cases g with
              | false =>
                have r := getU21_8 (c := cap) (r := 0) (g := 0) (zs := zs) (by omega) rfl (by omega) hm hb _ w (ho _ _)
                rw [argsC, hv] at r
                exact r
              | true =>
                have r := getS21_8 (c := cap) (g := 0) (zs := zs) (by omega) rfl (by omega) hm hb _ w (ho _ _)
                rw [argsC, hv] at r
                exact r
    · unfold getN
      rw [if_neg hs]
      have r := getno21 (a := a) (l := zs.length) (c := cap) (r := 0) (g := if g then 1 else 0) (zs := zs) hs _ w (ho _ _)
      rw [argsN, hv] at r
      exact r

/-- Of a slice of bytes that are all within their bounds. -/
theorem get21 (w : World) (v : Value) (zs : List Int) (a s : Int) (g : Bool) (hb : ∀ z ∈ zs, 0 ≤ z ∧ z ≤ 255) (hm : (zs.length : Int) ≤ 4611686018427387904) (h : SliceOf w .u8 v zs) :
    Calls Try.prog 21 #[v, .int .i64 a, .int .i64 s, .bool g] w fun e w' => e = .returned (.tuple #[.int .i64 (getN zs a s g).1, .int .i64 (getN zs a s g).2]) ∧ RowKit.Below w.heap.size w w' :=
  get21w w v zs a s g (fun _ _ => nat_getD zs hb _) hm h

end Go.Proofs.Ytbenfglhomiocaa.Fld
