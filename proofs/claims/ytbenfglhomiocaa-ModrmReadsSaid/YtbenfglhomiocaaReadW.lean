/-
  What modrm.Read, and the document's Read, do of any slice of bytes: the same.
-/
import Derived.Test.YtbenfglhomiocaaReadC
import Derived.Test.YtbenfglhomiocaaReadD0
import Derived.Test.YtbenfglhomiocaaReadD1
import Derived.Test.YtbenfglhomiocaaReadD2
import Derived.Test.YtbenfglhomiocaaReadD3
import Derived.Test.YtbenfglhomiocaaReadD4
import Derived.Test.YtbenfglhomiocaaReadD5
import Derived.Test.YtbenfglhomiocaaReadD6
import Derived.Test.YtbenfglhomiocaaReadD7
namespace Go.Proofs.Ytbenfglhomiocaa.Rd
open Go.Sim Go.Proofs.Ytbenfglhomiocaa.Fld Go.Proofs.Ytbenfglhomiocaa.Tab
set_option maxRecDepth 100000

/-- What bears names: where (a number n), how many, x, b, the numbers behind. -/
abbrev valR (n : Nat) (x b : Int) (zs : List Int) : Nat → Int := fun k => if k < 100 then [(n : Int), zs.length, 0, x, b, gv zs (n + 1) 1 true, gv zs (n + 1) 4 true, gv zs (n + 2) 1 true, gv zs (n + 2) 4 true].getD k 0 else zs.getD (k - 100) 0

section
variable {n : Nat} {x b : Int} {zs : List Int} {c : Int}

theorem wrapS (k : Int) (h0 : 0 ≤ k) (h1 : k ≤ 5000000000000000000) : IntKind.i64.wrap k = k := by rw [wrapI]; omega

theorem byteAt (k : Nat) : upd (valR n x b zs) 2 c (100 + k) = zs.getD k 0 := by
  show (if 100 + k = 2 then c else if 100 + k < 100 then _ else zs.getD (100 + k - 100) 0) = _
  rw [if_neg (by omega), if_neg (by omega), show 100 + k - 100 = k by omega]

theorem ev1 (hn : n ≤ 1000) : e1.eval (upd (valR n x b zs) 2 c) = (n + 1 : Nat) := by
  show IntKind.i64.wrap ((n : Int) + 1) = _
  rw [wrapS _ (by omega) (by omega)]; omega

theorem ev2 (hn : n ≤ 1000) : e2.eval (upd (valR n x b zs) 2 c) = (n + 2 : Nat) := by
  show IntKind.i64.wrap (e1.eval (upd (valR n x b zs) 2 c) + 1) = _
  rw [ev1 hn, wrapS _ (by omega) (by omega)]; omega

theorem evh1 (hn : n ≤ 1000) (k : Nat) (hk : k ≤ 10) : (hh e1 k).eval (upd (valR n x b zs) 2 c) = (n + 1 + k : Nat) := by
  show IntKind.i64.wrap (e1.eval (upd (valR n x b zs) 2 c) + (k : Int)) = _
  rw [ev1 hn, wrapS _ (by omega) (by omega)]; omega

theorem evh2 (hn : n ≤ 1000) (k : Nat) (hk : k ≤ 10) : (hh e2 k).eval (upd (valR n x b zs) 2 c) = (n + 2 + k : Nat) := by
  show IntKind.i64.wrap (e2.eval (upd (valR n x b zs) 2 c) + (k : Int)) = _
  rw [ev2 hn, wrapS _ (by omega) (by omega)]; omega

theorem evH (hb : ∀ z ∈ zs, 0 ≤ z ∧ z ≤ 255) : H.eval (upd (valR n x b zs) 2 c) = zs.getD n 0 := by
  show IntKind.i64.wrap (upd (valR n x b zs) 2 c (100 + ((n : Int)).toNat)) = _
  rw [byteAt, Int.toNat_natCast]
  have := nat_getD zs hb n
  exact wrapS _ (by omega) (by omega)

theorem evT (hn : n ≤ 1000) (hb : ∀ z ∈ zs, 0 ≤ z ∧ z ≤ 255) : T.eval (upd (valR n x b zs) 2 c) = zs.getD (n + 1) 0 := by
  show IntKind.i64.wrap (upd (valR n x b zs) 2 c (100 + (e1.eval (upd (valR n x b zs) 2 c)).toNat)) = _
  rw [ev1 hn, byteAt, Int.toNat_natCast]
  have := nat_getD zs hb (n + 1)
  exact wrapS _ (by omega) (by omega)

theorem upd_self : upd (valR n x b zs) 2 0 = valR n x b zs := by
  funext k
  show (if k = 2 then 0 else _) = _
  split
  · rename_i h; subst h; rfl
  · rfl

theorem gv_bounds (s a : Nat) (hs : s = 1 ∨ s = 4) : -2 ^ (8 * s - 1) ≤ gv zs a s true ∧ gv zs a s true < 2 ^ (8 * s - 1) := by
  have hw := wrap_bounds .i64 (le (fun i => zs.getD (a + i) 0) s)
  have p := plAll _ (plAll _ hw (8 * s) (by omega) (by omega)).sIn (8 * s) (by omega) (by omega)
  exact p.fit.1 (plAll _ hw (8 * s) (by omega) (by omega)).ss

/-- The slice, where the row lies. -/
theorem sliceR (hc : (zs.length : Int) ≤ c) {E : Env} {wd : World} (ho : @OutOK (nameS (upd (valR n x b zs) 2 c) sl0) E wd rowS) : SliceOf wd .u8 (@conc (nameS (upd (valR n x b zs) 2 c) sl0) E argR) zs := by
  rw [@ry0_conc _ (nameS (upd (valR n x b zs) 2 c) sl0)]
  show SliceOf wd .u8 (.slice (some ⟨E.ρ 0, E.κ 0, none⟩) ((zs.length : Int)).toNat c.toNat) zs
  obtain ⟨h1, _, h3⟩ := ho 0 _ rfl
  have h3 := h3 .u8 100 (.a 1) rfl
  by_cases h0 : zs.length = 0
  · refine .inl ⟨List.eq_nil_of_length_eq_zero h0, some ⟨E.ρ 0, E.κ 0, none⟩, c.toNat, ?_⟩
    rw [h0]
    rfl
  · refine .inr ⟨E.ρ 0, E.κ 0, c.toNat, by omega, by rw [Int.toNat_natCast], by omega, h1, fun i m hm => ?_⟩
    have hi := (List.getElem?_eq_some_iff.1 hm).1
    have := h3 i (show (i : Int) < (zs.length : Int) by omega)
    have this : wd.cell? ⟨E.ρ 0, E.κ 0 + i, none⟩ = some (.int .u8 (upd (valR n x b zs) 2 c (100 + i))) := this
    rw [this, byteAt, List.getD_eq_getElem?_getD, hm]
    rfl

/-- A part of it. -/
theorem partR (hc : (zs.length : Int) ≤ c) {E : Env} {wd : World} (ho : @OutOK (nameS (upd (valR n x b zs) 2 c) sl0) E wd rowS) {o : SX} {k q : Nat} (hq : o.eval (upd (valR n x b zs) 2 c) = (q : Int)) (hk : q + k ≤ zs.length) :
    SliceOf wd .u8 (@conc (nameS (upd (valR n x b zs) 2 c) sl0) E (.ry 0 o (.c (.ofNat k)) (.a 2))) ((zs.drop q).take k) := by
  obtain ⟨h1, _, h3⟩ := ho 0 _ rfl
  have h3 := h3 .u8 100 (.a 1) rfl
  show SliceOf wd .u8 (.slice (some ⟨E.ρ 0, E.κ 0 + (if c = o.eval (upd (valR n x b zs) 2 c) then 0 else (o.eval (upd (valR n x b zs) 2 c)).toNat), none⟩) k (c - o.eval (upd (valR n x b zs) 2 c)).toNat) _
  rw [hq]
  have hlen : ((zs.drop q).take k).length = k := by simp; omega
  by_cases h0 : k = 0
  · subst h0
    exact .inl ⟨by simp, _, _, rfl⟩
  · rw [if_neg (by omega)]
    refine .inr ⟨E.ρ 0, E.κ 0 + q, (c - q).toNat, by omega, by rw [hlen, Int.toNat_natCast], by omega, h1, fun i m hm => ?_⟩
    rw [List.getElem?_take] at hm
    split at hm
    · rename_i hi
      rw [List.getElem?_drop] at hm
      have := h3 (q + i) (show ((q + i : Nat) : Int) < (zs.length : Int) by omega)
      have this : wd.cell? ⟨E.ρ 0, E.κ 0 + (q + i), none⟩ = some (.int .u8 (upd (valR n x b zs) 2 c (100 + (q + i)))) := this
      rw [← Nat.add_assoc] at this
      rw [this, byteAt, List.getD_eq_getElem?_getD, hm]
      rfl
    · cases hm

theorem gv_part (q k : Nat) (hk : k = 1 ∨ k = 4) (hq : q + k ≤ zs.length) : sv ((zs.drop q).take k) = gv zs q k true := by
  have hlen : ((zs.drop q).take k).length = k := by simp; omega
  unfold sv
  rw [if_neg (by omega), hlen]
  unfold gv
  simp only [if_true]
  congr 2
  have : ∀ s, s ≤ k → le (fun i => ((zs.drop q).take k).getD (0 + i) 0) s = le (fun i => zs.getD (q + i) 0) s := by
    intro s
    induction s with
    | zero => intro _; rfl
    | succ s ih =>
      intro hs
      show le _ s + _ * ((zs.drop q).take k).getD (0 + s) 0 = le _ s + _ * zs.getD (q + s) 0
      rw [ih (by omega)]
      congr 2
      rw [List.getD_eq_getElem?_getD, List.getElem?_take, if_pos (by omega), List.getElem?_drop, List.getD_eq_getElem?_getD, Nat.zero_add]
  exact this k (Nat.le_refl _)


theorem atLt {val : Nat → Int} {X Y : SX} {p q : Int} (hX : X.eval val = p) (hY : Y.eval val = q) {v : Bool} (h : decide (p < q) = v) : (Fact.at (.lt X Y) v).holds val := by
  show decide (X.eval val < Y.eval val) = v
  rw [hX, hY]; exact h

theorem atLe {val : Nat → Int} {X Y : SX} {p q : Int} (hX : X.eval val = p) (hY : Y.eval val = q) {v : Bool} (h : decide (p ≤ q) = v) : (Fact.at (.le X Y) v).holds val := by
  show decide (X.eval val ≤ Y.eval val) = v
  rw [hX, hY]; exact h

theorem atEq {val : Nat → Int} {X Y : SX} {p q : Int} (hX : X.eval val = p) (hY : Y.eval val = q) {v : Bool} (h : (p == q) = v) : (Fact.at (.eq X Y) v).holds val := by
  show (X.eval val == Y.eval val) = v
  rw [hX, hY]; exact h

theorem geF {val : Nat → Int} {X : SX} {p n : Int} (hX : X.eval val = p) (h : n ≤ p) : (Fact.ge X n).holds val := by
  show n ≤ X.eval val
  rw [hX]; exact h

theorem leF {val : Nat → Int} {X : SX} {p n : Int} (hX : X.eval val = p) (h : p ≤ n) : (Fact.le X n).holds val := by
  show X.eval val ≤ n
  rw [hX]; exact h

theorem isSub {val : Nat → Int} {X Y : SX} {p q n : Int} (hX : X.eval val = p) (hY : Y.eval val = q) (h : p - q = n) : (Fact.is (.sub X Y) n).holds val := by
  show X.eval val - Y.eval val = n
  rw [hX, hY]; exact h

theorem pre0 (hn : n ≤ 1000) (_ : ∀ z ∈ zs, 0 ≤ z ∧ z ≤ 255) (hr : zs.length = n) : Holds (upd (valR n x b zs) 2 c) (pre 0 x b) :=
  (holds_cons (show x = x from rfl)
    (holds_cons (show b = b from rfl)
    (holds_cons (show (0 : Int) ≤ (zs.length : Int) by omega)
    (holds_cons (show (0 : Int) ≤ (n : Int) by omega)
    (holds_cons (atLt (rfl : (SX.a 1).eval _ = (zs.length : Int)) (rfl : (SX.a 0).eval _ = (n : Int)) (decide_eq_false (by omega)))
    (holds_cons (atEq (rfl : (SX.a 0).eval _ = (n : Int)) (rfl : (SX.a 1).eval _ = (zs.length : Int)) (beq_iff_eq.2 (by omega)))
    holds_nil))))))

theorem cap0 (_ : n ≤ 1000) (_ : (zs.length : Int) ≤ c) (_ : zs.length = n) : Holds (upd (valR n x b zs) 2 c) (capF 0) :=
  holds_nil

theorem pre1 (hn : n ≤ 1000) (hb : ∀ z ∈ zs, 0 ≤ z ∧ z ≤ 255) (hr : zs.length = n + 1) : Holds (upd (valR n x b zs) 2 c) (pre 1 x b) :=
  (holds_cons (show x = x from rfl)
    (holds_cons (show b = b from rfl)
    (holds_cons (show (0 : Int) ≤ (zs.length : Int) by omega)
    (holds_cons (show (0 : Int) ≤ (n : Int) by omega)
    (holds_cons (atLt (rfl : (SX.a 1).eval _ = (zs.length : Int)) (rfl : (SX.a 0).eval _ = (n : Int)) (decide_eq_false (by omega)))
    (holds_cons (atEq (rfl : (SX.a 0).eval _ = (n : Int)) (rfl : (SX.a 1).eval _ = (zs.length : Int)) (beq_eq_false_iff_ne.2 (by omega)))
    (holds_cons (atLt (rfl : (SX.a 0).eval _ = (n : Int)) (rfl : (SX.a 1).eval _ = (zs.length : Int)) (decide_eq_true (by omega)))
    (holds_cons (atEq (ev1 hn) (rfl : (SX.a 1).eval _ = (zs.length : Int)) (beq_iff_eq.2 (by omega)))
    (holds_cons (atLt (rfl : (SX.a 1).eval _ = (zs.length : Int)) (evh1 hn 0 (by omega)) (decide_eq_false (by omega)))
    (holds_cons (atLt (rfl : (SX.a 1).eval _ = (zs.length : Int)) (evh1 hn 1 (by omega)) (decide_eq_true (by omega)))
    (holds_cons (atLt (rfl : (SX.a 1).eval _ = (zs.length : Int)) (evh1 hn 4 (by omega)) (decide_eq_true (by omega)))
    (holds_cons (geF (evH hb) (nat_getD zs hb n).1)
    (holds_cons (leF (evH hb) (nat_getD zs hb n).2)
    (holds_cons (geF (ev1 hn) (by omega))
    (holds_cons (atLe (ev1 hn) (evh1 hn 0 (by omega)) (decide_eq_true (by omega)))
    (holds_cons (isSub (evh1 hn 0 (by omega)) (ev1 hn) (by omega))
    holds_nil))))))))))))))))

theorem cap1 (hn : n ≤ 1000) (hc : (zs.length : Int) ≤ c) (hr : zs.length = n + 1) : Holds (upd (valR n x b zs) 2 c) (capF 1) :=
  (holds_cons (atLe (evh1 hn 0 (by omega)) (rfl : (SX.a 2).eval _ = c) (decide_eq_true (by omega)))
    holds_nil)

theorem pre2 (hn : n ≤ 1000) (hb : ∀ z ∈ zs, 0 ≤ z ∧ z ≤ 255) (hr : zs.length = n + 2) : Holds (upd (valR n x b zs) 2 c) (pre 2 x b) :=
  (holds_cons (show x = x from rfl)
    (holds_cons (show b = b from rfl)
    (holds_cons (show (0 : Int) ≤ (zs.length : Int) by omega)
    (holds_cons (show (0 : Int) ≤ (n : Int) by omega)
    (holds_cons (atLt (rfl : (SX.a 1).eval _ = (zs.length : Int)) (rfl : (SX.a 0).eval _ = (n : Int)) (decide_eq_false (by omega)))
    (holds_cons (atEq (rfl : (SX.a 0).eval _ = (n : Int)) (rfl : (SX.a 1).eval _ = (zs.length : Int)) (beq_eq_false_iff_ne.2 (by omega)))
    (holds_cons (atLt (rfl : (SX.a 0).eval _ = (n : Int)) (rfl : (SX.a 1).eval _ = (zs.length : Int)) (decide_eq_true (by omega)))
    (holds_cons (atEq (ev1 hn) (rfl : (SX.a 1).eval _ = (zs.length : Int)) (beq_eq_false_iff_ne.2 (by omega)))
    (holds_cons (atLt (rfl : (SX.a 1).eval _ = (zs.length : Int)) (evh1 hn 0 (by omega)) (decide_eq_false (by omega)))
    (holds_cons (atLt (rfl : (SX.a 1).eval _ = (zs.length : Int)) (evh1 hn 1 (by omega)) (decide_eq_false (by omega)))
    (holds_cons (atLt (rfl : (SX.a 1).eval _ = (zs.length : Int)) (evh1 hn 4 (by omega)) (decide_eq_true (by omega)))
    (holds_cons (geF (evH hb) (nat_getD zs hb n).1)
    (holds_cons (leF (evH hb) (nat_getD zs hb n).2)
    (holds_cons (geF (ev1 hn) (by omega))
    (holds_cons (atLe (ev1 hn) (evh1 hn 0 (by omega)) (decide_eq_true (by omega)))
    (holds_cons (isSub (evh1 hn 0 (by omega)) (ev1 hn) (by omega))
    (holds_cons (atLt (ev1 hn) (rfl : (SX.a 1).eval _ = (zs.length : Int)) (decide_eq_true (by omega)))
    (holds_cons (atLt (rfl : (SX.a 1).eval _ = (zs.length : Int)) (evh2 hn 0 (by omega)) (decide_eq_false (by omega)))
    (holds_cons (atLt (rfl : (SX.a 1).eval _ = (zs.length : Int)) (evh2 hn 1 (by omega)) (decide_eq_true (by omega)))
    (holds_cons (atLt (rfl : (SX.a 1).eval _ = (zs.length : Int)) (evh2 hn 4 (by omega)) (decide_eq_true (by omega)))
    (holds_cons (geF (evT hn hb) (nat_getD zs hb (n + 1)).1)
    (holds_cons (leF (evT hn hb) (nat_getD zs hb (n + 1)).2)
    (holds_cons (atLe (ev1 hn) (evh1 hn 1 (by omega)) (decide_eq_true (by omega)))
    (holds_cons (isSub (evh1 hn 1 (by omega)) (ev1 hn) (by omega))
    (holds_cons (show -128 ≤ gv zs (n + 1) 1 true by have := gv_bounds (zs := zs) 1 (n + 1) (.inl rfl); simp only [Nat.reduceMul, Nat.reduceSub, Int.reducePow] at this; omega)
    (holds_cons (show gv zs (n + 1) 1 true ≤ 127 by have := gv_bounds (zs := zs) 1 (n + 1) (.inl rfl); simp only [Nat.reduceMul, Nat.reduceSub, Int.reducePow] at this; omega)
    (holds_cons (geF (ev2 hn) (by omega))
    (holds_cons (atLe (ev2 hn) (evh2 hn 0 (by omega)) (decide_eq_true (by omega)))
    (holds_cons (isSub (evh2 hn 0 (by omega)) (ev2 hn) (by omega))
    holds_nil)))))))))))))))))))))))))))))

theorem cap2 (hn : n ≤ 1000) (hc : (zs.length : Int) ≤ c) (hr : zs.length = n + 2) : Holds (upd (valR n x b zs) 2 c) (capF 2) :=
  (holds_cons (atLe (evh1 hn 0 (by omega)) (rfl : (SX.a 2).eval _ = c) (decide_eq_true (by omega)))
    (holds_cons (atLe (evh1 hn 1 (by omega)) (rfl : (SX.a 2).eval _ = c) (decide_eq_true (by omega)))
    (holds_cons (atLe (evh2 hn 0 (by omega)) (rfl : (SX.a 2).eval _ = c) (decide_eq_true (by omega)))
    holds_nil)))

theorem pre3 (hn : n ≤ 1000) (hb : ∀ z ∈ zs, 0 ≤ z ∧ z ≤ 255) (hr : n + 3 ≤ zs.length ∧ zs.length ≤ n + 4) : Holds (upd (valR n x b zs) 2 c) (pre 3 x b) :=
  (holds_cons (show x = x from rfl)
    (holds_cons (show b = b from rfl)
    (holds_cons (show (0 : Int) ≤ (zs.length : Int) by omega)
    (holds_cons (show (0 : Int) ≤ (n : Int) by omega)
    (holds_cons (atLt (rfl : (SX.a 1).eval _ = (zs.length : Int)) (rfl : (SX.a 0).eval _ = (n : Int)) (decide_eq_false (by omega)))
    (holds_cons (atEq (rfl : (SX.a 0).eval _ = (n : Int)) (rfl : (SX.a 1).eval _ = (zs.length : Int)) (beq_eq_false_iff_ne.2 (by omega)))
    (holds_cons (atLt (rfl : (SX.a 0).eval _ = (n : Int)) (rfl : (SX.a 1).eval _ = (zs.length : Int)) (decide_eq_true (by omega)))
    (holds_cons (atEq (ev1 hn) (rfl : (SX.a 1).eval _ = (zs.length : Int)) (beq_eq_false_iff_ne.2 (by omega)))
    (holds_cons (atLt (rfl : (SX.a 1).eval _ = (zs.length : Int)) (evh1 hn 0 (by omega)) (decide_eq_false (by omega)))
    (holds_cons (atLt (rfl : (SX.a 1).eval _ = (zs.length : Int)) (evh1 hn 1 (by omega)) (decide_eq_false (by omega)))
    (holds_cons (atLt (rfl : (SX.a 1).eval _ = (zs.length : Int)) (evh1 hn 4 (by omega)) (decide_eq_true (by omega)))
    (holds_cons (geF (evH hb) (nat_getD zs hb n).1)
    (holds_cons (leF (evH hb) (nat_getD zs hb n).2)
    (holds_cons (geF (ev1 hn) (by omega))
    (holds_cons (atLe (ev1 hn) (evh1 hn 0 (by omega)) (decide_eq_true (by omega)))
    (holds_cons (isSub (evh1 hn 0 (by omega)) (ev1 hn) (by omega))
    (holds_cons (atLt (ev1 hn) (rfl : (SX.a 1).eval _ = (zs.length : Int)) (decide_eq_true (by omega)))
    (holds_cons (atLt (rfl : (SX.a 1).eval _ = (zs.length : Int)) (evh2 hn 0 (by omega)) (decide_eq_false (by omega)))
    (holds_cons (atLt (rfl : (SX.a 1).eval _ = (zs.length : Int)) (evh2 hn 1 (by omega)) (decide_eq_false (by omega)))
    (holds_cons (atLt (rfl : (SX.a 1).eval _ = (zs.length : Int)) (evh2 hn 4 (by omega)) (decide_eq_true (by omega)))
    (holds_cons (geF (evT hn hb) (nat_getD zs hb (n + 1)).1)
    (holds_cons (leF (evT hn hb) (nat_getD zs hb (n + 1)).2)
    (holds_cons (atLe (ev1 hn) (evh1 hn 1 (by omega)) (decide_eq_true (by omega)))
    (holds_cons (isSub (evh1 hn 1 (by omega)) (ev1 hn) (by omega))
    (holds_cons (show -128 ≤ gv zs (n + 1) 1 true by have := gv_bounds (zs := zs) 1 (n + 1) (.inl rfl); simp only [Nat.reduceMul, Nat.reduceSub, Int.reducePow] at this; omega)
    (holds_cons (show gv zs (n + 1) 1 true ≤ 127 by have := gv_bounds (zs := zs) 1 (n + 1) (.inl rfl); simp only [Nat.reduceMul, Nat.reduceSub, Int.reducePow] at this; omega)
    (holds_cons (geF (ev2 hn) (by omega))
    (holds_cons (atLe (ev2 hn) (evh2 hn 0 (by omega)) (decide_eq_true (by omega)))
    (holds_cons (isSub (evh2 hn 0 (by omega)) (ev2 hn) (by omega))
    (holds_cons (atLe (ev2 hn) (evh2 hn 1 (by omega)) (decide_eq_true (by omega)))
    (holds_cons (isSub (evh2 hn 1 (by omega)) (ev2 hn) (by omega))
    (holds_cons (show -128 ≤ gv zs (n + 2) 1 true by have := gv_bounds (zs := zs) 1 (n + 2) (.inl rfl); simp only [Nat.reduceMul, Nat.reduceSub, Int.reducePow] at this; omega)
    (holds_cons (show gv zs (n + 2) 1 true ≤ 127 by have := gv_bounds (zs := zs) 1 (n + 2) (.inl rfl); simp only [Nat.reduceMul, Nat.reduceSub, Int.reducePow] at this; omega)
    holds_nil)))))))))))))))))))))))))))))))))

theorem cap3 (hn : n ≤ 1000) (hc : (zs.length : Int) ≤ c) (hr : n + 3 ≤ zs.length ∧ zs.length ≤ n + 4) : Holds (upd (valR n x b zs) 2 c) (capF 3) :=
  (holds_cons (atLe (evh1 hn 0 (by omega)) (rfl : (SX.a 2).eval _ = c) (decide_eq_true (by omega)))
    (holds_cons (atLe (evh1 hn 1 (by omega)) (rfl : (SX.a 2).eval _ = c) (decide_eq_true (by omega)))
    (holds_cons (atLe (evh2 hn 0 (by omega)) (rfl : (SX.a 2).eval _ = c) (decide_eq_true (by omega)))
    (holds_cons (atLe (evh2 hn 1 (by omega)) (rfl : (SX.a 2).eval _ = c) (decide_eq_true (by omega)))
    holds_nil))))

theorem pre5 (hn : n ≤ 1000) (hb : ∀ z ∈ zs, 0 ≤ z ∧ z ≤ 255) (hr : zs.length = n + 5) : Holds (upd (valR n x b zs) 2 c) (pre 5 x b) :=
  (holds_cons (show x = x from rfl)
    (holds_cons (show b = b from rfl)
    (holds_cons (show (0 : Int) ≤ (zs.length : Int) by omega)
    (holds_cons (show (0 : Int) ≤ (n : Int) by omega)
    (holds_cons (atLt (rfl : (SX.a 1).eval _ = (zs.length : Int)) (rfl : (SX.a 0).eval _ = (n : Int)) (decide_eq_false (by omega)))
    (holds_cons (atEq (rfl : (SX.a 0).eval _ = (n : Int)) (rfl : (SX.a 1).eval _ = (zs.length : Int)) (beq_eq_false_iff_ne.2 (by omega)))
    (holds_cons (atLt (rfl : (SX.a 0).eval _ = (n : Int)) (rfl : (SX.a 1).eval _ = (zs.length : Int)) (decide_eq_true (by omega)))
    (holds_cons (atEq (ev1 hn) (rfl : (SX.a 1).eval _ = (zs.length : Int)) (beq_eq_false_iff_ne.2 (by omega)))
    (holds_cons (atLt (rfl : (SX.a 1).eval _ = (zs.length : Int)) (evh1 hn 0 (by omega)) (decide_eq_false (by omega)))
    (holds_cons (atLt (rfl : (SX.a 1).eval _ = (zs.length : Int)) (evh1 hn 1 (by omega)) (decide_eq_false (by omega)))
    (holds_cons (atLt (rfl : (SX.a 1).eval _ = (zs.length : Int)) (evh1 hn 4 (by omega)) (decide_eq_false (by omega)))
    (holds_cons (geF (evH hb) (nat_getD zs hb n).1)
    (holds_cons (leF (evH hb) (nat_getD zs hb n).2)
    (holds_cons (geF (ev1 hn) (by omega))
    (holds_cons (atLe (ev1 hn) (evh1 hn 0 (by omega)) (decide_eq_true (by omega)))
    (holds_cons (isSub (evh1 hn 0 (by omega)) (ev1 hn) (by omega))
    (holds_cons (atLt (ev1 hn) (rfl : (SX.a 1).eval _ = (zs.length : Int)) (decide_eq_true (by omega)))
    (holds_cons (atLt (rfl : (SX.a 1).eval _ = (zs.length : Int)) (evh2 hn 0 (by omega)) (decide_eq_false (by omega)))
    (holds_cons (atLt (rfl : (SX.a 1).eval _ = (zs.length : Int)) (evh2 hn 1 (by omega)) (decide_eq_false (by omega)))
    (holds_cons (atLt (rfl : (SX.a 1).eval _ = (zs.length : Int)) (evh2 hn 4 (by omega)) (decide_eq_true (by omega)))
    (holds_cons (geF (evT hn hb) (nat_getD zs hb (n + 1)).1)
    (holds_cons (leF (evT hn hb) (nat_getD zs hb (n + 1)).2)
    (holds_cons (atLe (ev1 hn) (evh1 hn 1 (by omega)) (decide_eq_true (by omega)))
    (holds_cons (isSub (evh1 hn 1 (by omega)) (ev1 hn) (by omega))
    (holds_cons (show -128 ≤ gv zs (n + 1) 1 true by have := gv_bounds (zs := zs) 1 (n + 1) (.inl rfl); simp only [Nat.reduceMul, Nat.reduceSub, Int.reducePow] at this; omega)
    (holds_cons (show gv zs (n + 1) 1 true ≤ 127 by have := gv_bounds (zs := zs) 1 (n + 1) (.inl rfl); simp only [Nat.reduceMul, Nat.reduceSub, Int.reducePow] at this; omega)
    (holds_cons (geF (ev2 hn) (by omega))
    (holds_cons (atLe (ev2 hn) (evh2 hn 0 (by omega)) (decide_eq_true (by omega)))
    (holds_cons (isSub (evh2 hn 0 (by omega)) (ev2 hn) (by omega))
    (holds_cons (atLe (ev2 hn) (evh2 hn 1 (by omega)) (decide_eq_true (by omega)))
    (holds_cons (isSub (evh2 hn 1 (by omega)) (ev2 hn) (by omega))
    (holds_cons (show -128 ≤ gv zs (n + 2) 1 true by have := gv_bounds (zs := zs) 1 (n + 2) (.inl rfl); simp only [Nat.reduceMul, Nat.reduceSub, Int.reducePow] at this; omega)
    (holds_cons (show gv zs (n + 2) 1 true ≤ 127 by have := gv_bounds (zs := zs) 1 (n + 2) (.inl rfl); simp only [Nat.reduceMul, Nat.reduceSub, Int.reducePow] at this; omega)
    (holds_cons (atLe (ev1 hn) (evh1 hn 4 (by omega)) (decide_eq_true (by omega)))
    (holds_cons (isSub (evh1 hn 4 (by omega)) (ev1 hn) (by omega))
    (holds_cons (show -2147483648 ≤ gv zs (n + 1) 4 true by have := gv_bounds (zs := zs) 4 (n + 1) (.inr rfl); simp only [Nat.reduceMul, Nat.reduceSub, Int.reducePow] at this; omega)
    (holds_cons (show gv zs (n + 1) 4 true ≤ 2147483647 by have := gv_bounds (zs := zs) 4 (n + 1) (.inr rfl); simp only [Nat.reduceMul, Nat.reduceSub, Int.reducePow] at this; omega)
    holds_nil)))))))))))))))))))))))))))))))))))))

theorem cap5 (hn : n ≤ 1000) (hc : (zs.length : Int) ≤ c) (hr : zs.length = n + 5) : Holds (upd (valR n x b zs) 2 c) (capF 5) :=
  (holds_cons (atLe (evh1 hn 0 (by omega)) (rfl : (SX.a 2).eval _ = c) (decide_eq_true (by omega)))
    (holds_cons (atLe (evh1 hn 1 (by omega)) (rfl : (SX.a 2).eval _ = c) (decide_eq_true (by omega)))
    (holds_cons (atLe (evh2 hn 0 (by omega)) (rfl : (SX.a 2).eval _ = c) (decide_eq_true (by omega)))
    (holds_cons (atLe (evh2 hn 1 (by omega)) (rfl : (SX.a 2).eval _ = c) (decide_eq_true (by omega)))
    (holds_cons (atLe (evh1 hn 4 (by omega)) (rfl : (SX.a 2).eval _ = c) (decide_eq_true (by omega)))
    holds_nil)))))

theorem pre6 (hn : n ≤ 1000) (hb : ∀ z ∈ zs, 0 ≤ z ∧ z ≤ 255) (hr : n + 6 ≤ zs.length) : Holds (upd (valR n x b zs) 2 c) (pre 6 x b) :=
  (holds_cons (show x = x from rfl)
    (holds_cons (show b = b from rfl)
    (holds_cons (show (0 : Int) ≤ (zs.length : Int) by omega)
    (holds_cons (show (0 : Int) ≤ (n : Int) by omega)
    (holds_cons (atLt (rfl : (SX.a 1).eval _ = (zs.length : Int)) (rfl : (SX.a 0).eval _ = (n : Int)) (decide_eq_false (by omega)))
    (holds_cons (atEq (rfl : (SX.a 0).eval _ = (n : Int)) (rfl : (SX.a 1).eval _ = (zs.length : Int)) (beq_eq_false_iff_ne.2 (by omega)))
    (holds_cons (atLt (rfl : (SX.a 0).eval _ = (n : Int)) (rfl : (SX.a 1).eval _ = (zs.length : Int)) (decide_eq_true (by omega)))
    (holds_cons (atEq (ev1 hn) (rfl : (SX.a 1).eval _ = (zs.length : Int)) (beq_eq_false_iff_ne.2 (by omega)))
    (holds_cons (atLt (rfl : (SX.a 1).eval _ = (zs.length : Int)) (evh1 hn 0 (by omega)) (decide_eq_false (by omega)))
    (holds_cons (atLt (rfl : (SX.a 1).eval _ = (zs.length : Int)) (evh1 hn 1 (by omega)) (decide_eq_false (by omega)))
    (holds_cons (atLt (rfl : (SX.a 1).eval _ = (zs.length : Int)) (evh1 hn 4 (by omega)) (decide_eq_false (by omega)))
    (holds_cons (geF (evH hb) (nat_getD zs hb n).1)
    (holds_cons (leF (evH hb) (nat_getD zs hb n).2)
    (holds_cons (geF (ev1 hn) (by omega))
    (holds_cons (atLe (ev1 hn) (evh1 hn 0 (by omega)) (decide_eq_true (by omega)))
    (holds_cons (isSub (evh1 hn 0 (by omega)) (ev1 hn) (by omega))
    (holds_cons (atLt (ev1 hn) (rfl : (SX.a 1).eval _ = (zs.length : Int)) (decide_eq_true (by omega)))
    (holds_cons (atLt (rfl : (SX.a 1).eval _ = (zs.length : Int)) (evh2 hn 0 (by omega)) (decide_eq_false (by omega)))
    (holds_cons (atLt (rfl : (SX.a 1).eval _ = (zs.length : Int)) (evh2 hn 1 (by omega)) (decide_eq_false (by omega)))
    (holds_cons (atLt (rfl : (SX.a 1).eval _ = (zs.length : Int)) (evh2 hn 4 (by omega)) (decide_eq_false (by omega)))
    (holds_cons (geF (evT hn hb) (nat_getD zs hb (n + 1)).1)
    (holds_cons (leF (evT hn hb) (nat_getD zs hb (n + 1)).2)
    (holds_cons (atLe (ev1 hn) (evh1 hn 1 (by omega)) (decide_eq_true (by omega)))
    (holds_cons (isSub (evh1 hn 1 (by omega)) (ev1 hn) (by omega))
    (holds_cons (show -128 ≤ gv zs (n + 1) 1 true by have := gv_bounds (zs := zs) 1 (n + 1) (.inl rfl); simp only [Nat.reduceMul, Nat.reduceSub, Int.reducePow] at this; omega)
    (holds_cons (show gv zs (n + 1) 1 true ≤ 127 by have := gv_bounds (zs := zs) 1 (n + 1) (.inl rfl); simp only [Nat.reduceMul, Nat.reduceSub, Int.reducePow] at this; omega)
    (holds_cons (geF (ev2 hn) (by omega))
    (holds_cons (atLe (ev2 hn) (evh2 hn 0 (by omega)) (decide_eq_true (by omega)))
    (holds_cons (isSub (evh2 hn 0 (by omega)) (ev2 hn) (by omega))
    (holds_cons (atLe (ev2 hn) (evh2 hn 1 (by omega)) (decide_eq_true (by omega)))
    (holds_cons (isSub (evh2 hn 1 (by omega)) (ev2 hn) (by omega))
    (holds_cons (show -128 ≤ gv zs (n + 2) 1 true by have := gv_bounds (zs := zs) 1 (n + 2) (.inl rfl); simp only [Nat.reduceMul, Nat.reduceSub, Int.reducePow] at this; omega)
    (holds_cons (show gv zs (n + 2) 1 true ≤ 127 by have := gv_bounds (zs := zs) 1 (n + 2) (.inl rfl); simp only [Nat.reduceMul, Nat.reduceSub, Int.reducePow] at this; omega)
    (holds_cons (atLe (ev1 hn) (evh1 hn 4 (by omega)) (decide_eq_true (by omega)))
    (holds_cons (isSub (evh1 hn 4 (by omega)) (ev1 hn) (by omega))
    (holds_cons (show -2147483648 ≤ gv zs (n + 1) 4 true by have := gv_bounds (zs := zs) 4 (n + 1) (.inr rfl); simp only [Nat.reduceMul, Nat.reduceSub, Int.reducePow] at this; omega)
    (holds_cons (show gv zs (n + 1) 4 true ≤ 2147483647 by have := gv_bounds (zs := zs) 4 (n + 1) (.inr rfl); simp only [Nat.reduceMul, Nat.reduceSub, Int.reducePow] at this; omega)
    (holds_cons (atLe (ev2 hn) (evh2 hn 4 (by omega)) (decide_eq_true (by omega)))
    (holds_cons (isSub (evh2 hn 4 (by omega)) (ev2 hn) (by omega))
    (holds_cons (show -2147483648 ≤ gv zs (n + 2) 4 true by have := gv_bounds (zs := zs) 4 (n + 2) (.inr rfl); simp only [Nat.reduceMul, Nat.reduceSub, Int.reducePow] at this; omega)
    (holds_cons (show gv zs (n + 2) 4 true ≤ 2147483647 by have := gv_bounds (zs := zs) 4 (n + 2) (.inr rfl); simp only [Nat.reduceMul, Nat.reduceSub, Int.reducePow] at this; omega)
    holds_nil)))))))))))))))))))))))))))))))))))))))))

theorem cap6 (hn : n ≤ 1000) (hc : (zs.length : Int) ≤ c) (hr : n + 6 ≤ zs.length) : Holds (upd (valR n x b zs) 2 c) (capF 6) :=
  (holds_cons (atLe (evh1 hn 0 (by omega)) (rfl : (SX.a 2).eval _ = c) (decide_eq_true (by omega)))
    (holds_cons (atLe (evh1 hn 1 (by omega)) (rfl : (SX.a 2).eval _ = c) (decide_eq_true (by omega)))
    (holds_cons (atLe (evh2 hn 0 (by omega)) (rfl : (SX.a 2).eval _ = c) (decide_eq_true (by omega)))
    (holds_cons (atLe (evh2 hn 1 (by omega)) (rfl : (SX.a 2).eval _ = c) (decide_eq_true (by omega)))
    (holds_cons (atLe (evh1 hn 4 (by omega)) (rfl : (SX.a 2).eval _ = c) (decide_eq_true (by omega)))
    (holds_cons (atLe (evh2 hn 4 (by omega)) (rfl : (SX.a 2).eval _ = c) (decide_eq_true (by omega)))
    holds_nil))))))

theorem tabPOK (hn : n ≤ 1000) (hb : ∀ z ∈ zs, 0 ≤ z ∧ z ≤ 255) : TabOK Try.prog (upd (valR n x b zs) 2 c) sl0 tabP := by
  intro y hy
  simp only [tabP, List.mem_cons, List.not_mem_nil, or_false] at hy
  rcases hy with rfl | rfl
  · have := split22 (zs.getD n 0) (nat_getD zs hb n).1 (nat_getD zs hb n).2
    rw [← evH (n := n) (x := x) (b := b) (c := c) hb] at this
    exact this
  · have := split22 (zs.getD (n + 1) 0) (nat_getD zs hb (n + 1)).1 (nat_getD zs hb (n + 1)).2
    rw [← evT (n := n) (x := x) (b := b) (c := c) hn hb] at this
    exact this

theorem q21 (hc : (zs.length : Int) ≤ c) (hb : ∀ z ∈ zs, 0 ≤ z ∧ z ≤ 255) (hl : (zs.length : Int) ≤ 4611686018427387904) {e : SX} {q s : Nat} {g : Bool} {u : Value} (he : e.eval (upd (valR n x b zs) 2 c) = (q : Int)) (hu : u = .tuple #[.int .i64 (getN zs q s g).1, .int .i64 (getN zs q s g).2]) :
    RetO Try.prog 21 [argR, .sx .i64 e, ci s, bv g] rowS sl0 (upd (valR n x b zs) 2 c) u := by
  intro E wd ho
  have r := get21 wd _ zs q s g hb hl (sliceR hc ho)
  rw [← hu, ← he] at r
  exact r

theorem q39 (hc : (zs.length : Int) ≤ c) (hb : ∀ z ∈ zs, 0 ≤ z ∧ z ≤ 255) {o : SX} {q k : Nat} {u : Value} (he : o.eval (upd (valR n x b zs) 2 c) = (q : Int)) (hk : k = 1 ∨ k = 4) (hq : q + k ≤ zs.length) (hu : u = .int .i64 (gv zs q k true)) :
    RetO Try.prog 39 [.ry 0 o (.c (.ofNat k)) (.a 2)] rowS sl0 (upd (valR n x b zs) 2 c) u := by
  intro E wd ho
  have hb' : ∀ z ∈ (zs.drop q).take k, 0 ≤ z ∧ z ≤ 255 := fun z hz => hb z (List.mem_of_mem_drop (List.mem_of_mem_take hz))
  have r := sign39 wd _ _ hb' (by rw [List.length_take, List.length_drop]; omega) (partR hc ho he hq)
  rw [gv_part q k hk hq, ← hu] at r
  exact r

theorem q39z (hc : (zs.length : Int) ≤ c) {o : SX} {q : Nat} (he : o.eval (upd (valR n x b zs) 2 c) = (q : Int)) (hq : q ≤ zs.length) :
    RetO Try.prog 39 [.ry 0 o (.c 0) (.a 2)] rowS sl0 (upd (valR n x b zs) 2 c) (.int .i64 0) := by
  intro E wd ho
  have r := sign39 wd _ _ (fun z hz => by simp at hz) (.inl (by simp)) (partR (k := 0) hc ho he (by omega))
  have e : sv ((zs.drop q).take 0) = 0 := by simp [sv]
  rw [e] at r
  exact r

theorem oNil {val : Nat → Int} : TabOKO Try.prog val sl0 rowS [] := fun y hy => by cases hy

theorem oCons {val : Nat → Int} {f : FuncId} {args : List AV} {u : AV} {tab : List (FuncId × List AV × AV)} (h : RetO Try.prog f args rowS sl0 val (@conc (nameS val sl0) E0 u)) (ht : TabOKO Try.prog val sl0 rowS tab) : TabOKO Try.prog val sl0 rowS ((f, args, u) :: tab) := by
  intro y hy
  rcases List.mem_cons.1 hy with rfl | hy
  · exact h
  · exact ht y hy

theorem getOK (q s : Nat) (g : Bool) (hs : s = 1 ∨ s = 4) (h : q + s ≤ zs.length) : getN zs q s g = (gv zs q s g, 0) := by
  unfold getN
  have hz : isSize s := by unfold isSize; omega
  rw [if_pos hz, if_neg (by omega), if_neg (by omega)]
  simp

theorem getCut (q s : Nat) (g : Bool) (hs : s = 1 ∨ s = 4) (h0 : q ≤ zs.length) (h : zs.length < q + s) : getN zs q s g = (0, 9) := by
  unfold getN
  have hz : isSize s := by unfold isSize; omega
  rw [if_pos hz, if_neg (by omega), if_pos (by omega)]

theorem gvU (hb : ∀ z ∈ zs, 0 ≤ z ∧ z ≤ 255) (q : Nat) : gv zs q 1 false = zs.getD q 0 := by
  have := nat_getD zs hb q
  show IntKind.i64.wrap (0 + 2 ^ (8 * 0) * zs.getD (q + 0) 0) = _
  rw [Nat.add_zero, wrapI]
  simp only [Nat.mul_zero, Int.pow_zero, Int.one_mul, Int.zero_add]
  omega

theorem tabQ0 (_ : n ≤ 1000) (hc : (zs.length : Int) ≤ c) (hb : ∀ z ∈ zs, 0 ≤ z ∧ z ≤ 255) (hl : (zs.length : Int) ≤ 4611686018427387904) (hr : zs.length = n) : TabOKO Try.prog (upd (valR n x b zs) 2 c) sl0 rowS (tabQ 0) :=
  (oCons (q21 hc hb hl (rfl : (SX.a 0).eval _ = ((n : Nat) : Int)) (by rw [getCut (n) 1 false (by omega) (by omega) (by omega)]; rfl))
    oNil)

theorem joint0 (hn : n ≤ 1000) (hb : ∀ z ∈ zs, 0 ≤ z ∧ z ≤ 255) (hl : (zs.length : Int) ≤ 4611686018427387904) (hr : zs.length = n) (hx : x = 0 ∨ x = 1) (hbb : b = 0 ∨ b = 1) : Q (valR n x b zs) := by
  have hp := pre0 (x := x) (b := b) (c := 0) hn hb hr
  rw [upd_self] at hp
  have ht : Tabs 0 (valR n x b zs) := fun c hc => ⟨cap0 hn hc hr, tabPOK hn hb, tabQ0 hn hc hb hl hr⟩
  rcases hx with rfl | rfl <;> rcases hbb with rfl | rfl
  · exact r000 _ hp ht
  · exact r001 _ hp ht
  · exact r010 _ hp ht
  · exact r011 _ hp ht

theorem tabQ1 (hn : n ≤ 1000) (hc : (zs.length : Int) ≤ c) (hb : ∀ z ∈ zs, 0 ≤ z ∧ z ≤ 255) (hl : (zs.length : Int) ≤ 4611686018427387904) (hr : zs.length = n + 1) : TabOKO Try.prog (upd (valR n x b zs) 2 c) sl0 rowS (tabQ 1) :=
  (oCons (q21 hc hb hl (rfl : (SX.a 0).eval _ = ((n : Nat) : Int)) (by rw [getOK (n) 1 false (by omega) (by omega), gvU hb]; show Value.tuple #[.int .i64 (H.eval (upd (valR n x b zs) 2 c)), _] = _; rw [evH hb]; rfl))
    (oCons (q21 hc hb hl (ev1 hn) (by rw [getCut (n + 1) 1 false (by omega) (by omega) (by omega)]; rfl))
    (oCons (q21 hc hb hl (ev1 hn) (by rw [getCut (n + 1) 1 true (by omega) (by omega) (by omega)]; rfl))
    (oCons (q21 hc hb hl (ev1 hn) (by rw [getCut (n + 1) 4 true (by omega) (by omega) (by omega)]; rfl))
    (oCons (q39z hc (ev1 hn) (by omega))
    oNil)))))

theorem joint1 (hn : n ≤ 1000) (hb : ∀ z ∈ zs, 0 ≤ z ∧ z ≤ 255) (hl : (zs.length : Int) ≤ 4611686018427387904) (hr : zs.length = n + 1) (hx : x = 0 ∨ x = 1) (hbb : b = 0 ∨ b = 1) : Q (valR n x b zs) := by
  have hp := pre1 (x := x) (b := b) (c := 0) hn hb hr
  rw [upd_self] at hp
  have ht : Tabs 1 (valR n x b zs) := fun c hc => ⟨cap1 hn hc hr, tabPOK hn hb, tabQ1 hn hc hb hl hr⟩
  rcases hx with rfl | rfl <;> rcases hbb with rfl | rfl
  · exact r100 _ hp ht
  · exact r101 _ hp ht
  · exact r110 _ hp ht
  · exact r111 _ hp ht

theorem tabQ2 (hn : n ≤ 1000) (hc : (zs.length : Int) ≤ c) (hb : ∀ z ∈ zs, 0 ≤ z ∧ z ≤ 255) (hl : (zs.length : Int) ≤ 4611686018427387904) (hr : zs.length = n + 2) : TabOKO Try.prog (upd (valR n x b zs) 2 c) sl0 rowS (tabQ 2) :=
  (oCons (q21 hc hb hl (rfl : (SX.a 0).eval _ = ((n : Nat) : Int)) (by rw [getOK (n) 1 false (by omega) (by omega), gvU hb]; show Value.tuple #[.int .i64 (H.eval (upd (valR n x b zs) 2 c)), _] = _; rw [evH hb]; rfl))
    (oCons (q21 hc hb hl (ev1 hn) (by rw [getOK (n + 1) 1 false (by omega) (by omega), gvU hb]; show Value.tuple #[.int .i64 (T.eval (upd (valR n x b zs) 2 c)), _] = _; rw [evT hn hb]; rfl))
    (oCons (q21 hc hb hl (ev1 hn) (by rw [getOK (n + 1) 1 true (by omega) (by omega)]; rfl))
    (oCons (q21 hc hb hl (ev1 hn) (by rw [getCut (n + 1) 4 true (by omega) (by omega) (by omega)]; rfl))
    (oCons (q39z hc (ev1 hn) (by omega))
    (oCons (q21 hc hb hl (ev2 hn) (by rw [getCut (n + 2) 1 true (by omega) (by omega) (by omega)]; rfl))
    (oCons (q21 hc hb hl (ev2 hn) (by rw [getCut (n + 2) 4 true (by omega) (by omega) (by omega)]; rfl))
    (oCons (q39 (k := 1) hc hb (ev1 hn) (.inl rfl) (by omega) rfl)
    (oCons (q39z hc (ev2 hn) (by omega))
    oNil)))))))))

theorem joint2 (hn : n ≤ 1000) (hb : ∀ z ∈ zs, 0 ≤ z ∧ z ≤ 255) (hl : (zs.length : Int) ≤ 4611686018427387904) (hr : zs.length = n + 2) (hx : x = 0 ∨ x = 1) (hbb : b = 0 ∨ b = 1) : Q (valR n x b zs) := by
  have hp := pre2 (x := x) (b := b) (c := 0) hn hb hr
  rw [upd_self] at hp
  have ht : Tabs 2 (valR n x b zs) := fun c hc => ⟨cap2 hn hc hr, tabPOK hn hb, tabQ2 hn hc hb hl hr⟩
  rcases hx with rfl | rfl <;> rcases hbb with rfl | rfl
  · exact r200 _ hp ht
  · exact r201 _ hp ht
  · exact r210 _ hp ht
  · exact r211 _ hp ht

theorem tabQ3 (hn : n ≤ 1000) (hc : (zs.length : Int) ≤ c) (hb : ∀ z ∈ zs, 0 ≤ z ∧ z ≤ 255) (hl : (zs.length : Int) ≤ 4611686018427387904) (hr : n + 3 ≤ zs.length ∧ zs.length ≤ n + 4) : TabOKO Try.prog (upd (valR n x b zs) 2 c) sl0 rowS (tabQ 3) :=
  (oCons (q21 hc hb hl (rfl : (SX.a 0).eval _ = ((n : Nat) : Int)) (by rw [getOK (n) 1 false (by omega) (by omega), gvU hb]; show Value.tuple #[.int .i64 (H.eval (upd (valR n x b zs) 2 c)), _] = _; rw [evH hb]; rfl))
    (oCons (q21 hc hb hl (ev1 hn) (by rw [getOK (n + 1) 1 false (by omega) (by omega), gvU hb]; show Value.tuple #[.int .i64 (T.eval (upd (valR n x b zs) 2 c)), _] = _; rw [evT hn hb]; rfl))
    (oCons (q21 hc hb hl (ev1 hn) (by rw [getOK (n + 1) 1 true (by omega) (by omega)]; rfl))
    (oCons (q21 hc hb hl (ev1 hn) (by rw [getCut (n + 1) 4 true (by omega) (by omega) (by omega)]; rfl))
    (oCons (q39z hc (ev1 hn) (by omega))
    (oCons (q21 hc hb hl (ev2 hn) (by rw [getOK (n + 2) 1 true (by omega) (by omega)]; rfl))
    (oCons (q21 hc hb hl (ev2 hn) (by rw [getCut (n + 2) 4 true (by omega) (by omega) (by omega)]; rfl))
    (oCons (q39 (k := 1) hc hb (ev1 hn) (.inl rfl) (by omega) rfl)
    (oCons (q39z hc (ev2 hn) (by omega))
    (oCons (q39 (k := 1) hc hb (ev2 hn) (.inl rfl) (by omega) rfl)
    oNil))))))))))

theorem joint3 (hn : n ≤ 1000) (hb : ∀ z ∈ zs, 0 ≤ z ∧ z ≤ 255) (hl : (zs.length : Int) ≤ 4611686018427387904) (hr : n + 3 ≤ zs.length ∧ zs.length ≤ n + 4) (hx : x = 0 ∨ x = 1) (hbb : b = 0 ∨ b = 1) : Q (valR n x b zs) := by
  have hp := pre3 (x := x) (b := b) (c := 0) hn hb hr
  rw [upd_self] at hp
  have ht : Tabs 3 (valR n x b zs) := fun c hc => ⟨cap3 hn hc hr, tabPOK hn hb, tabQ3 hn hc hb hl hr⟩
  rcases hx with rfl | rfl <;> rcases hbb with rfl | rfl
  · exact r300 _ hp ht
  · exact r301 _ hp ht
  · exact r310 _ hp ht
  · exact r311 _ hp ht

theorem tabQ5 (hn : n ≤ 1000) (hc : (zs.length : Int) ≤ c) (hb : ∀ z ∈ zs, 0 ≤ z ∧ z ≤ 255) (hl : (zs.length : Int) ≤ 4611686018427387904) (hr : zs.length = n + 5) : TabOKO Try.prog (upd (valR n x b zs) 2 c) sl0 rowS (tabQ 5) :=
  (oCons (q21 hc hb hl (rfl : (SX.a 0).eval _ = ((n : Nat) : Int)) (by rw [getOK (n) 1 false (by omega) (by omega), gvU hb]; show Value.tuple #[.int .i64 (H.eval (upd (valR n x b zs) 2 c)), _] = _; rw [evH hb]; rfl))
    (oCons (q21 hc hb hl (ev1 hn) (by rw [getOK (n + 1) 1 false (by omega) (by omega), gvU hb]; show Value.tuple #[.int .i64 (T.eval (upd (valR n x b zs) 2 c)), _] = _; rw [evT hn hb]; rfl))
    (oCons (q21 hc hb hl (ev1 hn) (by rw [getOK (n + 1) 1 true (by omega) (by omega)]; rfl))
    (oCons (q21 hc hb hl (ev1 hn) (by rw [getOK (n + 1) 4 true (by omega) (by omega)]; rfl))
    (oCons (q39z hc (ev1 hn) (by omega))
    (oCons (q21 hc hb hl (ev2 hn) (by rw [getOK (n + 2) 1 true (by omega) (by omega)]; rfl))
    (oCons (q21 hc hb hl (ev2 hn) (by rw [getCut (n + 2) 4 true (by omega) (by omega) (by omega)]; rfl))
    (oCons (q39 (k := 1) hc hb (ev1 hn) (.inl rfl) (by omega) rfl)
    (oCons (q39z hc (ev2 hn) (by omega))
    (oCons (q39 (k := 1) hc hb (ev2 hn) (.inl rfl) (by omega) rfl)
    (oCons (q39 (k := 4) hc hb (ev1 hn) (.inr rfl) (by omega) rfl)
    oNil)))))))))))

theorem joint5 (hn : n ≤ 1000) (hb : ∀ z ∈ zs, 0 ≤ z ∧ z ≤ 255) (hl : (zs.length : Int) ≤ 4611686018427387904) (hr : zs.length = n + 5) (hx : x = 0 ∨ x = 1) (hbb : b = 0 ∨ b = 1) : Q (valR n x b zs) := by
  have hp := pre5 (x := x) (b := b) (c := 0) hn hb hr
  rw [upd_self] at hp
  have ht : Tabs 5 (valR n x b zs) := fun c hc => ⟨cap5 hn hc hr, tabPOK hn hb, tabQ5 hn hc hb hl hr⟩
  rcases hx with rfl | rfl <;> rcases hbb with rfl | rfl
  · exact r500 _ hp ht
  · exact r501 _ hp ht
  · exact r510 _ hp ht
  · exact r511 _ hp ht

theorem tabQ6 (hn : n ≤ 1000) (hc : (zs.length : Int) ≤ c) (hb : ∀ z ∈ zs, 0 ≤ z ∧ z ≤ 255) (hl : (zs.length : Int) ≤ 4611686018427387904) (hr : n + 6 ≤ zs.length) : TabOKO Try.prog (upd (valR n x b zs) 2 c) sl0 rowS (tabQ 6) :=
  (oCons (q21 hc hb hl (rfl : (SX.a 0).eval _ = ((n : Nat) : Int)) (by rw [getOK (n) 1 false (by omega) (by omega), gvU hb]; show Value.tuple #[.int .i64 (H.eval (upd (valR n x b zs) 2 c)), _] = _; rw [evH hb]; rfl))
    (oCons (q21 hc hb hl (ev1 hn) (by rw [getOK (n + 1) 1 false (by omega) (by omega), gvU hb]; show Value.tuple #[.int .i64 (T.eval (upd (valR n x b zs) 2 c)), _] = _; rw [evT hn hb]; rfl))
    (oCons (q21 hc hb hl (ev1 hn) (by rw [getOK (n + 1) 1 true (by omega) (by omega)]; rfl))
    (oCons (q21 hc hb hl (ev1 hn) (by rw [getOK (n + 1) 4 true (by omega) (by omega)]; rfl))
    (oCons (q39z hc (ev1 hn) (by omega))
    (oCons (q21 hc hb hl (ev2 hn) (by rw [getOK (n + 2) 1 true (by omega) (by omega)]; rfl))
    (oCons (q21 hc hb hl (ev2 hn) (by rw [getOK (n + 2) 4 true (by omega) (by omega)]; rfl))
    (oCons (q39 (k := 1) hc hb (ev1 hn) (.inl rfl) (by omega) rfl)
    (oCons (q39z hc (ev2 hn) (by omega))
    (oCons (q39 (k := 1) hc hb (ev2 hn) (.inl rfl) (by omega) rfl)
    (oCons (q39 (k := 4) hc hb (ev1 hn) (.inr rfl) (by omega) rfl)
    (oCons (q39 (k := 4) hc hb (ev2 hn) (.inr rfl) (by omega) rfl)
    oNil))))))))))))

theorem joint6 (hn : n ≤ 1000) (hb : ∀ z ∈ zs, 0 ≤ z ∧ z ≤ 255) (hl : (zs.length : Int) ≤ 4611686018427387904) (hr : n + 6 ≤ zs.length) (hx : x = 0 ∨ x = 1) (hbb : b = 0 ∨ b = 1) : Q (valR n x b zs) := by
  have hp := pre6 (x := x) (b := b) (c := 0) hn hb hr
  rw [upd_self] at hp
  have ht : Tabs 6 (valR n x b zs) := fun c hc => ⟨cap6 hn hc hr, tabPOK hn hb, tabQ6 hn hc hb hl hr⟩
  rcases hx with rfl | rfl <;> rcases hbb with rfl | rfl
  · exact r600 _ hp ht
  · exact r601 _ hp ht
  · exact r610 _ hp ht
  · exact r611 _ hp ht

theorem jointAll (hn : n ≤ 1000) (hb : ∀ z ∈ zs, 0 ≤ z ∧ z ≤ 255) (hl : (zs.length : Int) ≤ 4611686018427387904) (hnl : n ≤ zs.length) (hx : x = 0 ∨ x = 1) (hbb : b = 0 ∨ b = 1) : Q (valR n x b zs) := by
  by_cases h0 : zs.length = n
  · exact joint0 hn hb hl h0 hx hbb
  by_cases h1 : zs.length = n + 1
  · exact joint1 hn hb hl h1 hx hbb
  by_cases h2 : zs.length = n + 2
  · exact joint2 hn hb hl h2 hx hbb
  by_cases h3 : zs.length ≤ n + 4
  · exact joint3 hn hb hl ⟨by omega, h3⟩ hx hbb
  by_cases h5 : zs.length = n + 5
  · exact joint5 hn hb hl h5 hx hbb
  · exact joint6 hn hb hl (by omega) hx hbb

end
end Go.Proofs.Ytbenfglhomiocaa.Rd
