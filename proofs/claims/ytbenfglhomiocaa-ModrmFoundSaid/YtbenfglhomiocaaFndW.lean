/-
  The law 'ModrmFound': from bytes to names.
-/
import Derived.Test.YtbenfglhomiocaaFndC
import Derived.Test.YtbenfglhomiocaaFndH

namespace Go.Proofs.Ytbenfglhomiocaa.Fnd
open Go.Sim Go.Proofs.Ytbenfglhomiocaa.Fld Go.Proofs.Ytbenfglhomiocaa.Tab
set_option maxRecDepth 100000

/-- What the names stand for. -/
abbrev valF (c : Int) (o : Nat) (zs : List Int) : Nat → Int := fun k => if k < 100 then
  (match k with
  | 1 => (zs.length : Int)
  | 2 => c
  | 5 => gv zs o 1 true
  | 6 => gv zs o 4 true
  | 9 => zs.getD 0 0
  | 10 => zs.getD 0 0 / 8 % 8
  | 11 => zs.getD 0 0 % 8
  | 12 => zs.getD 1 0
  | 14 => zs.getD 1 0 / 8 % 8
  | 15 => zs.getD 1 0 % 8
  | 60 => byteOf (gv zs o 1 true) 0
  | 61 => byteOf (gv zs o 1 true) 1
  | 62 => byteOf (gv zs o 1 true) 2
  | 63 => byteOf (gv zs o 1 true) 3
  | 64 => byteOf (gv zs o 4 true) 0
  | _ => 0)
  else zs.getD (k - 100) 0

/-- Where the displacement stands. -/
def Cfg.at (c : Cfg) : Nat := cond c.sib 2 1

/-- The bytes are of this kind. -/
structure Of (c : Cfg) (zs : List Int) : Prop where
  x1 : c.x ≤ 1
  b1 : c.bb ≤ 1
  len : 1 ≤ zs.length
  hm : zs.getD 0 0 / 64 = (c.md : Int)
  hrm : (c.rm = 8 ∧ (c.md = 3 ∨ (zs.getD 0 0 % 8 ≠ 4 ∧ zs.getD 0 0 % 8 ≠ 5))) ∨ (c.rm ≠ 8 ∧ zs.getD 0 0 % 8 = (c.rm : Int))
  two : c.sib = true → c.two = decide (2 ≤ zs.length)
  hss : c.sib = true → zs.getD 1 0 / 64 = (c.ss : Int)
  hix : (c.sib = true ∧ c.ix = 8 ∧ zs.getD 1 0 / 8 % 8 ≠ 4 ∧ (c.ss = 0 → zs.getD 1 0 / 8 % 8 ≠ 5)) ∨ (c.ix ≠ 8 ∧ (c.sib = true → zs.getD 1 0 / 8 % 8 = (c.ix : Int)))
  hbs : (c.sib = true ∧ c.bs = 8 ∧ zs.getD 1 0 % 8 ≠ 4 ∧ zs.getD 1 0 % 8 ≠ 5) ∨ (c.bs ≠ 8 ∧ (c.sib = true → zs.getD 1 0 % 8 = (c.bs : Int)))
  en : (c.sib = true → c.two = true) → c.en = decide (c.at + c.dsp ≤ zs.length)
  cut : c.sib = true → c.two = false → c.en = true → c.dsp = 0
  fit : c.fit = true → -128 ≤ gv zs c.at 4 true ∧ gv zs c.at 4 true ≤ 127
  fitB : c.en = true → c.dsp = 4 → (-128 ≤ gv zs c.at 4 true ∧ gv zs c.at 4 true ≤ 127) → c.fit = true

theorem gv_bounds (zs : List Int) (s a : Nat) (hs : s = 1 ∨ s = 4) : -2 ^ (8 * s - 1) ≤ gv zs a s true ∧ gv zs a s true < 2 ^ (8 * s - 1) := by
  have hw := wrap_bounds .i64 (le (fun i => zs.getD (a + i) 0) s)
  have p := plAll _ (plAll _ hw (8 * s) (by omega) (by omega)).sIn (8 * s) (by omega) (by omega)
  exact p.fit.1 (plAll _ hw (8 * s) (by omega) (by omega)).ss

section
variable {cp : Int} {zs : List Int} {c : Cfg}

theorem byteF (o k : Nat) : valF cp o zs (100 + k) = zs.getD k 0 := by
  show (if 100 + k < 100 then _ else zs.getD (100 + k - 100) 0) = _
  rw [if_neg (by omega), show 100 + k - 100 = k by omega]

theorem g1 (o : Nat) : -128 ≤ gv zs o 1 true ∧ gv zs o 1 true ≤ 127 := by
  have := gv_bounds zs 1 o (.inl rfl)
  simp only [Nat.reduceMul, Nat.reduceSub, Int.reducePow] at this
  omega

theorem g4 (o : Nat) : -2147483648 ≤ gv zs o 4 true ∧ gv zs o 4 true ≤ 2147483647 := by
  have := gv_bounds zs 4 o (.inr rfl)
  simp only [Nat.reduceMul, Nat.reduceSub, Int.reducePow] at this
  omega

/-- A part: a name or a number. -/
theorem pcF {val : Nat → Int} {k n : Nat} {m : Int} (hv : val k = m) (h : n = 8 ∨ m = (n : Int)) : @conc (nameS val sF) E0 (pc k n) = .int .i64 m := by
  unfold pc
  split
  · show Value.int .i64 (val k) = _
    rw [hv]
  · rename_i h8
    rcases h with h | h
    · exact absurd h (by simpa using h8)
    · rw [h]; rfl

theorem mNil {val : Nat → Int} : MTabOK Try.prog val sF [] := fun _ hx => by cases hx

theorem byteLt (n : Int) (i : Nat) : 0 ≤ byteOf n i ∧ byteOf n i ≤ 255 := by
  unfold byteOf
  constructor <;> omega

theorem tNil {val : Nat → Int} : TabOK Try.prog val sF [] := fun _ hy => by cases hy

theorem tCons {val : Nat → Int} {f : FuncId} {args : List AV} {u : AV} {tab : List (FuncId × List AV × AV)} (h : Ret Try.prog f (@concs (nameS val sF) E0 args) (@conc (nameS val sF) E0 u)) (ht : TabOK Try.prog val sF tab) : TabOK Try.prog val sF ((f, args, u) :: tab) := by
  intro y hy
  rcases List.mem_cons.1 hy with rfl | hy
  · exact h
  · exact ht y hy

theorem tApp {val : Nat → Int} {l l' : List (FuncId × List AV × AV)} (h : TabOK Try.prog val sF l) (h' : TabOK Try.prog val sF l') : TabOK Try.prog val sF (l ++ l') := by
  intro y hy
  rcases List.mem_append.1 hy with hy | hy
  · exact h y hy
  · exact h' y hy

theorem tCond {val : Nat → Int} {b : Bool} {l : List (FuncId × List AV × AV)} (h : b = true → TabOK Try.prog val sF l) : TabOK Try.prog val sF (cond b l []) := by
  cases b
  · exact tNil
  · exact h rfl

/-- The three fields of a byte. -/
theorem splitI (h : Int) (h0 : 0 ≤ h) (h1 : h ≤ 255) : Ret Try.prog 22 [.int .i64 h] (.tuple #[.int .i64 (h / 64), .int .i64 (h / 8 % 8), .int .i64 (h % 8)]) := by
  have k := Go.Proofs.Ytbenfglhomiocaa.Rd.split22 h h0 h1
  have e1 : IntKind.i64.wrap (h.tdiv 64) = h / 64 := by rw [Int.tdiv_eq_ediv_of_nonneg h0, wrapI]; omega
  have e2 : (IntKind.i64.wrap (h.tdiv 8)).tmod 8 = h / 8 % 8 := by
    rw [Int.tdiv_eq_ediv_of_nonneg h0, show IntKind.i64.wrap (h / 8) = h / 8 by rw [wrapI]; omega, Int.tmod_eq_emod_of_nonneg (by omega)]
  rw [e1, e2, Int.tmod_eq_emod_of_nonneg h0] at k
  exact k

theorem splitT {val : Nat → Int} {k i j m n p : Nat} {h : Int} (hk : val k = h) (h0 : 0 ≤ h) (h1 : h ≤ 255) (e1 : h / 64 = (m : Int)) (ei : @conc (nameS val sF) E0 (pc i n) = .int .i64 (h / 8 % 8)) (ej : @conc (nameS val sF) E0 (pc j p) = .int .i64 (h % 8)) :
    Ret Try.prog 22 (@concs (nameS val sF) E0 [a k]) (@conc (nameS val sF) E0 (.tup [ci m, pc i n, pc j p])) := by
  have s := splitI h h0 h1
  have e : @conc (nameS val sF) E0 (.tup [ci m, pc i n, pc j p]) = .tuple #[.int .i64 (h / 64), .int .i64 (h / 8 % 8), .int .i64 (h % 8)] := by
    simp only [conc, concs, ei, ej]
    rw [e1]; rfl
  rw [e]
  have e' : @concs (nameS val sF) E0 [a k] = [.int .i64 h] := by
    simp only [concs, conc]
    rw [← hk]; rfl
  rw [e']
  exact s

theorem joinT {val : Nat → Int} {i j m n p b : Nat} {h : Int} (hb : val b = h) (h0 : 0 ≤ h) (h1 : h ≤ 255) (e1 : h / 64 = (m : Int)) (ei : @conc (nameS val sF) E0 (pc i n) = .int .i64 (h / 8 % 8)) (ej : @conc (nameS val sF) E0 (pc j p) = .int .i64 (h % 8)) :
    Ret Try.prog 31 (@concs (nameS val sF) E0 [ci m, pc i n, pc j p]) (@conc (nameS val sF) E0 (u b)) := by
  have s := join31 (h / 64) (h / 8 % 8) (h % 8) (by omega) (by omega) (by omega)
  rw [show 64 * (h / 64) + 8 * (h / 8 % 8) + h % 8 = h by omega] at s
  have e : @concs (nameS val sF) E0 [ci m, pc i n, pc j p] = [.int .i64 (h / 64), .int .i64 (h / 8 % 8), .int .i64 (h % 8)] := by
    simp only [concs, ei, ej]
    rw [e1]; rfl
  have e' : @conc (nameS val sF) E0 (u b) = .int .u8 h := by
    rw [← hb]; rfl
  rw [e, e']
  exact s

/-- Low and High of a name's number. -/
theorem lhT {val : Nat → Int} {cls q k n : Nat} (hc : cls = 5 ∨ cls = 6) (hq : q ≤ 1) (h0 : 0 ≤ val k) (h1 : val k ≤ 7) : TabOK Try.prog val sF (lh cls q k n) := by
  unfold lh
  refine tCond fun h8 => ?_
  obtain rfl := Nat.eq_of_beq_eq_true h8
  have e : @concs (nameS val sF) E0 [.agg [ci cls, num q k 8]] = [.agg #[.int .i64 (cls : Int), .int .i64 (8 * q + val k : Int)]] := by
    have w : IntKind.i64.wrap (((8 * q : Nat) : Int) + val k) = 8 * q + val k := by rw [wrapI]; omega
    rw [← w]; rfl
  have c' : (cls : Int) = 5 ∨ (cls : Int) = 6 := by omega
  have l := low32 cls c' (8 * q + val k) (by omega)
  have g := high33 cls c' (8 * q + val k) (by omega)
  rw [show (8 * (q : Int) + val k) % 8 = val k by omega] at l
  rw [show (8 * (q : Int) + val k) / 8 = q by omega] at g
  refine tCons ?_ (tCons ?_ tNil)
  · rw [e]; exact l
  · rw [e]; exact g

theorem rm_or (o : Of c zs) : c.rm = 8 ∨ zs.getD 0 0 % 8 = (c.rm : Int) := by
  rcases o.hrm with h | h
  · exact .inl h.1
  · exact .inr h.2

theorem ix_or (o : Of c zs) (hs : c.sib = true) : c.ix = 8 ∨ zs.getD 1 0 / 8 % 8 = (c.ix : Int) := by
  rcases o.hix with h | h
  · exact .inl h.2.1
  · exact .inr (h.2 hs)

theorem bs_or (o : Of c zs) (hs : c.sib = true) : c.bs = 8 ∨ zs.getD 1 0 % 8 = (c.bs : Int) := by
  rcases o.hbs with h | h
  · exact .inl h.2.1
  · exact .inr (h.2 hs)

theorem sgn1 {z : Int} (h : -128 ≤ z ∧ z ≤ 127) : (sgnF z 8 == z) = true := by
  rw [beq_iff_eq]
  show (z + 2 ^ 7) % 2 ^ 8 - 2 ^ 7 = z
  simp only [Int.reducePow]; omega

theorem sgn0 {z : Int} (h : ¬(-128 ≤ z ∧ z ≤ 127)) : (sgnF z 8 == z) = false := by
  rw [beq_eq_false_iff_ne]
  show (z + 2 ^ 7) % 2 ^ 8 - 2 ^ 7 ≠ z
  simp only [Int.reducePow]; omega

/-- Calls of numbers. -/
theorem tPOK (o : Of c zs) (hb : ∀ z ∈ zs, 0 ≤ z ∧ z ≤ 255) : TabOK Try.prog (valF cp c.at zs) sF (tP c) := by
  have h0 := nat_getD zs hb 0
  have t0 := nat_getD zs hb 1
  have k1 := g1 (zs := zs) c.at
  have k4 := g4 (zs := zs) c.at
  have b0 : valF cp c.at zs 100 = zs.getD 0 0 := byteF c.at 0
  have b1 : valF cp c.at zs 101 = zs.getD 1 0 := byteF c.at 1
  have p10 : @conc (nameS (valF cp c.at zs) sF) E0 (pc 10 8) = .int .i64 (zs.getD 0 0 / 8 % 8) := pcF rfl (.inl rfl)
  have p11 : @conc (nameS (valF cp c.at zs) sF) E0 (pc 11 c.rm) = .int .i64 (zs.getD 0 0 % 8) := pcF rfl (rm_or o)
  refine tApp (tCons ?_ (tCons ?_ (tCons ?_ tNil))) (tApp (tCond fun hf => tCons ?_ tNil) (tApp (tCond fun hs => tCons ?_ (tCons ?_ tNil)) (tApp ?_ (tApp ?_ (tApp ?_ ?_)))))
  · exact splitT (i := 10) (n := 8) rfl h0.1 h0.2 o.hm p10 p11
  · exact joinT (i := 10) (n := 8) b0 h0.1 h0.2 o.hm p10 p11
  · have f := fitsAll (gv zs c.at 1 true) ⟨by omega, by omega⟩ 8 (by omega) (by omega)
    rw [sgn1 k1] at f
    exact f
  · have f := fitsAll (gv zs c.at 4 true) ⟨by omega, by omega⟩ 8 (by omega) (by omega)
    have e : (sgnF (gv zs c.at 4 true) 8 == gv zs c.at 4 true) = c.fit := by
      obtain ⟨e1, e2⟩ := (Bool.and_eq_true _ _).mp hf
      by_cases hh : -128 ≤ gv zs c.at 4 true ∧ gv zs c.at 4 true ≤ 127
      · rw [sgn1 hh, o.fitB e1 (Nat.eq_of_beq_eq_true e2) hh]
      · rw [sgn0 hh]
        cases hc : c.fit
        · rfl
        · exact absurd (o.fit hc) hh
    rw [e] at f
    exact f
  · exact splitT rfl t0.1 t0.2 (o.hss hs) (pcF rfl (ix_or o hs)) (pcF rfl (bs_or o hs))
  · exact joinT b1 t0.1 t0.2 (o.hss hs) (pcF (k := 14) rfl (ix_or o hs)) (pcF (k := 15) rfl (bs_or o hs))
  · exact lhT (.inl rfl) o.b1 (show 0 ≤ zs.getD 0 0 % 8 by omega) (show zs.getD 0 0 % 8 ≤ 7 by omega)
  · exact lhT (.inr rfl) o.b1 (show 0 ≤ zs.getD 0 0 % 8 by omega) (show zs.getD 0 0 % 8 ≤ 7 by omega)
  · exact lhT (.inl rfl) o.x1 (show 0 ≤ zs.getD 1 0 / 8 % 8 by omega) (show zs.getD 1 0 / 8 % 8 ≤ 7 by omega)
  · exact lhT (.inl rfl) o.b1 (show 0 ≤ zs.getD 1 0 % 8 by omega) (show zs.getD 1 0 % 8 ≤ 7 by omega)

/-- The slice, where the row lies. -/
theorem sliceF {o : Nat} (hc : (zs.length : Int) ≤ cp) {E : Env} {wd : World} (ho : @OutOK (nameS (valF cp o zs) sF) E wd rowF) : SliceOf wd .u8 (@conc (nameS (valF cp o zs) sF) E argR) zs := by
  show SliceOf wd .u8 (@conc (nameS (valF cp o zs) sF) E (.ry 0 (.c (.ofNat 0)) (.a 1) (.a 2))) zs
  rw [@ry0_conc _ (nameS (valF cp o zs) sF)]
  show SliceOf wd .u8 (.slice (some ⟨E.ρ 0, E.κ 0, none⟩) ((zs.length : Int)).toNat cp.toNat) zs
  obtain ⟨h1, _, h3⟩ := ho 0 _ rfl
  have h3 := h3 .u8 100 (.a 1) rfl
  by_cases h0 : zs.length = 0
  · refine .inl ⟨List.eq_nil_of_length_eq_zero h0, some ⟨E.ρ 0, E.κ 0, none⟩, cp.toNat, ?_⟩
    rw [h0]
    rfl
  · refine .inr ⟨E.ρ 0, E.κ 0, cp.toNat, by omega, by rw [Int.toNat_natCast], by omega, h1, fun i m hm => ?_⟩
    have hi := (List.getElem?_eq_some_iff.1 hm).1
    have := h3 i (show (i : Int) < (zs.length : Int) by omega)
    have this : wd.cell? ⟨E.ρ 0, E.κ 0 + i, none⟩ = some (.int .u8 (valF cp o zs (100 + i))) := this
    rw [this, byteF, List.getD_eq_getElem?_getD, hm]
    rfl

theorem qF {o : Nat} (hc : (zs.length : Int) ≤ cp) (hb : ∀ z ∈ zs, 0 ≤ z ∧ z ≤ 255) (hl : (zs.length : Int) ≤ 4611686018427387904) {q s : Nat} {g : Bool} {u : Value} (hu : u = .tuple #[.int .i64 (getN zs q s g).1, .int .i64 (getN zs q s g).2]) :
    RetO Try.prog 21 [argR, ci q, ci s, bv g] rowF sF (valF cp o zs) u := by
  intro E wd ho
  have r := get21 wd _ zs q s g hb hl (sliceF hc ho)
  rw [← hu] at r
  exact r

theorem getOK (q s : Nat) (g : Bool) (hs : s = 1 ∨ s = 4) (h : q + s ≤ zs.length) : getN zs q s g = (gv zs q s g, 0) := by
  unfold getN
  have hz : isSize s := by unfold isSize; omega
  rw [if_pos hz, if_neg (by omega), if_neg (by omega)]
  simp

theorem getCut (q s : Nat) (g : Bool) (hs : s = 1 ∨ s = 4) (h0 : q ≤ zs.length) (h : zs.length < q + s) : getN zs q s g = (0, 9) := by
  unfold getN
  have hz : isSize s := by unfold isSize; omega
  rw [if_pos hz, if_neg (by omega), if_pos (by omega)]

theorem gvU (hb : ∀ z ∈ zs, 0 ≤ z ∧ z ≤ 255) (q : Nat) : gv zs q 1 false = zs.getD q 0 := by
  have := nat_getD zs hb q
  show IntKind.i64.wrap (0 + 2 ^ (8 * 0) * zs.getD (q + 0) 0) = _
  rw [Nat.add_zero, wrapI]
  simp only [Nat.mul_zero, Int.pow_zero, Int.one_mul, Int.zero_add]
  omega

/-- What is got, or cut. -/
theorem gF {o : Nat} (hc : (zs.length : Int) ≤ cp) (hb : ∀ z ∈ zs, 0 ≤ z ∧ z ≤ 255) (hl : (zs.length : Int) ≤ 4611686018427387904) {q s k : Nat} {g en : Bool} (hs : s = 1 ∨ s = 4) (hq : q ≤ zs.length) (he : en = decide (q + s ≤ zs.length)) (hv : valF cp o zs k = gv zs q s g) :
    RetO Try.prog 21 [argR, ci q, ci s, bv g] rowF sF (valF cp o zs) (@conc (nameS (valF cp o zs) sF) E0 (gt en (a k))) := by
  refine qF hc hb hl ?_
  cases en
  · rw [getCut q s g hs hq (by have := of_decide_eq_false he.symm; omega)]
    rfl
  · rw [getOK q s g hs (of_decide_eq_true he.symm)]
    show Value.tuple #[.int .i64 (valF cp o zs k), .int .i64 0] = _
    rw [hv]

theorem oNil {val : Nat → Int} : TabOKO Try.prog val sF rowF [] := fun y hy => by cases hy

theorem oCons {val : Nat → Int} {f : FuncId} {args : List AV} {u : AV} {tab : List (FuncId × List AV × AV)} (h : RetO Try.prog f args rowF sF val (@conc (nameS val sF) E0 u)) (ht : TabOKO Try.prog val sF rowF tab) : TabOKO Try.prog val sF rowF ((f, args, u) :: tab) := by
  intro y hy
  rcases List.mem_cons.1 hy with rfl | hy
  · exact h
  · exact ht y hy

theorem dspOK {o : Nat} (hc : (zs.length : Int) ≤ cp) (hb : ∀ z ∈ zs, 0 ≤ z ∧ z ≤ 255) (hl : (zs.length : Int) ≤ 4611686018427387904) (hq : o ≤ zs.length) (he : c.en = decide (o + c.dsp ≤ zs.length)) (hd : c.dsp = 0 ∨ c.dsp = 1 ∨ c.dsp = 4) : TabOKO Try.prog (valF cp o zs) sF rowF (dspQ c o) := by
  unfold dspQ
  rcases hd with hd | hd | hd <;> rw [hd] at he ⊢
  · exact oNil
  · exact oCons (gF hc hb hl (.inl rfl) hq he rfl) oNil
  · exact oCons (gF hc hb hl (.inr rfl) hq he rfl) oNil

theorem dspIs (c : Cfg) : c.dsp = 0 ∨ c.dsp = 1 ∨ c.dsp = 4 := by
  unfold Cfg.dsp
  split
  · exact .inl rfl
  · exact .inr (.inl rfl)
  · exact .inr (.inr rfl)
  · cases c.sib
    · cases Nat.beq c.rm 5
      · exact .inl rfl
      · exact .inr (.inr rfl)
    · cases (c.two && Nat.beq c.bs 5)
      · exact .inl rfl
      · exact .inr (.inr rfl)

/-- Calls of field.Get. -/
theorem tQOK (o : Of c zs) (hc : (zs.length : Int) ≤ cp) (hb : ∀ z ∈ zs, 0 ≤ z ∧ z ≤ 255) (hl : (zs.length : Int) ≤ 4611686018427387904) : TabOKO Try.prog (valF cp c.at zs) sF rowF (tQ c) := by
  have h1 := o.len
  have g0 := gF (o := c.at) (k := 9) hc hb hl (q := 0) (s := 1) (g := false) (en := true) (.inl rfl) (by omega) (decide_eq_true h1).symm (gvU hb 0).symm
  unfold tQ
  refine oCons g0 ?_
  cases hs : c.sib
  · have ha : c.at = 1 := by unfold Cfg.at; rw [hs]; rfl
    have he := o.en (fun h => by rw [hs] at h; cases h)
    rw [ha] at he ⊢
    exact dspOK hc hb hl h1 he (dspIs c)
  · have ha : c.at = 2 := by unfold Cfg.at; rw [hs]; rfl
    have g1 := gF (o := c.at) (k := 12) hc hb hl (q := 1) (s := 1) (g := false) (en := c.two) (.inl rfl) h1 (o.two hs) (gvU hb 1).symm
    refine oCons g1 ?_
    cases ht : c.two
    · exact oNil
    · have he := o.en (fun _ => ht)
      have h2 : 2 ≤ zs.length := of_decide_eq_true ((o.two hs).symm.trans ht)
      rw [ha] at he ⊢
      exact dspOK hc hb hl h2 he (dspIs c)

theorem hApp {val : Nat → Int} {l l' : List Fact} (h : Holds val l) (h' : Holds val l') : Holds val (l ++ l') := by
  intro x hx
  rcases List.mem_append.1 hx with hx | hx
  · exact h x hx
  · exact h' x hx

theorem hCond {val : Nat → Int} {b : Bool} {l : List Fact} (h : b = true → Holds val l) : Holds val (cond b l []) := by
  cases b
  · exact holds_nil
  · exact h rfl

theorem bytesOK {val : Nat → Int} : ∀ (n k : Nat), (∀ i, i < n → 0 ≤ val (k + i) ∧ val (k + i) ≤ 255) → Holds val (bytesF k n)
  | 0, _, _ => holds_nil
  | n + 1, k, h => holds_cons (h 0 (by omega)).1 (holds_cons (h 0 (by omega)).2 (bytesOK n (k + 1) fun i hi => by have := h (i + 1) (by omega); rw [show k + 1 + i = k + (i + 1) by omega]; exact this))

/-- What is known. -/
theorem preOK (o : Of c zs) (hb : ∀ z ∈ zs, 0 ≤ z ∧ z ≤ 255) (hl : zs.length ≤ 30) (hc : (zs.length : Int) ≤ cp) (he : c.ends ≤ zs.length) : Holds (valF cp c.at zs) (preF c) := by
  have k1 := g1 (zs := zs) c.at
  have k4 := g4 (zs := zs) c.at
  refine hApp (holds_cons (show ((c.ends : Nat) : Int) ≤ (zs.length : Int) by omega) (holds_cons (show (zs.length : Int) ≤ 30 by omega) (holds_cons (show ((c.ends : Nat) : Int) ≤ cp by omega) (holds_cons (show 0 ≤ zs.getD 0 0 / 8 % 8 by omega) (holds_cons (show zs.getD 0 0 / 8 % 8 ≤ 7 by omega) holds_nil))))) (hApp (hCond fun h8 => ?_) (hApp (hCond fun h8 => ?_) (hApp (hCond fun h8 => ?_) (hApp (holds_cons k1.1 (holds_cons k1.2 (holds_cons k4.1 (holds_cons k4.2 holds_nil)))) (hApp (bytesOK 6 100 fun i _ => ?_) (bytesOK 5 60 fun i hi => ?_))))))
  · have h8 := Nat.eq_of_beq_eq_true h8
    have hr : c.md = 3 ∨ (zs.getD 0 0 % 8 ≠ 4 ∧ zs.getD 0 0 % 8 ≠ 5) := by
      rcases o.hrm with h | h
      · exact h.2
      · exact absurd h8 h.1
    refine hApp (holds_cons (show 0 ≤ zs.getD 0 0 % 8 by omega) (holds_cons (show zs.getD 0 0 % 8 ≤ 7 by omega) holds_nil)) ?_
    cases h3 : Nat.beq c.md 3
    · have : c.md ≠ 3 := fun h => by rw [h] at h3; cases h3
      have hr := hr.resolve_left this
      exact holds_cons hr.1 (holds_cons hr.2 holds_nil)
    · exact holds_nil
  · have h8 := Nat.eq_of_beq_eq_true h8
    have hr : zs.getD 1 0 / 8 % 8 ≠ 4 ∧ (c.ss = 0 → zs.getD 1 0 / 8 % 8 ≠ 5) := by
      rcases o.hix with h | h
      · exact h.2.2
      · exact absurd h8 h.1
    refine hApp (holds_cons (show 0 ≤ zs.getD 1 0 / 8 % 8 by omega) (holds_cons (show zs.getD 1 0 / 8 % 8 ≤ 7 by omega) (holds_cons hr.1 holds_nil))) (hCond fun h0 => ?_)
    exact holds_cons (hr.2 (Nat.eq_of_beq_eq_true h0)) holds_nil
  · have h8 := Nat.eq_of_beq_eq_true h8
    have hr : zs.getD 1 0 % 8 ≠ 4 ∧ zs.getD 1 0 % 8 ≠ 5 := by
      rcases o.hbs with h | h
      · exact h.2.2
      · exact absurd h8 h.1
    exact holds_cons (show 0 ≤ zs.getD 1 0 % 8 by omega) (holds_cons (show zs.getD 1 0 % 8 ≤ 7 by omega) (holds_cons hr.1 (holds_cons hr.2 holds_nil)))
  · rw [byteF]
    exact nat_getD zs hb i
  · have : i = 0 ∨ i = 1 ∨ i = 2 ∨ i = 3 ∨ i = 4 := by omega
    rcases this with rfl | rfl | rfl | rfl | rfl <;> exact byteLt _ _

theorem mCons {val : Nat → Int} {e : ME} {l : List ME} (h : ∀ w vs, @PtsOf (nameS val sF) w e.ps vs → @SummV (nameS val sF) Try.prog e.f vs e.v0 e.bs w) (ht : MTabOK Try.prog val sF l) : MTabOK Try.prog val sF (e :: l) := by
  intro y hy
  rcases List.mem_cons.1 hy with rfl | hy
  · exact h
  · exact ht y hy

theorem putArgs {val : Nat → Int} {k n : Nat} {d : Int} (hd : val k = d) {w : World} {vs : List Value} (h : @PtsOf (nameS val sF) w [.one (.av (a k)), .one (.av (ci n))] vs) : vs = [.int .i64 d, .int .i64 (n : Int)] := by
  obtain ⟨v, us, rfl, hv, v', us', rfl, hv', hu⟩ := h
  have hv : v = .int .i64 (val k) := hv
  have hv' : v' = .int .i64 (n : Int) := hv'
  have hu : us' = [] := hu
  rw [hv, hv', hu, hd]

theorem putT1 {val : Nat → Int} {k b : Nat} {d : Int} (hd : val k = d) (h : -128 ≤ d ∧ d ≤ 127) (hb : val b = byteOf d 0) : ∀ w vs, @PtsOf (nameS val sF) w (putM (a k) 1 [u b]).ps vs → @SummV (nameS val sF) Try.prog (putM (a k) 1 [u b]).f vs (putM (a k) 1 [u b]).v0 (putM (a k) 1 [u b]).bs w := by
  intro w vs hp
  have e := putArgs hd hp
  subst e
  refine summV_congr (I := IC) (J := nameS val sF) (v0 := .sl 0 0 1 1) (bs := [⟨5, false, 1, [.v (.int .u8 (byteOf d 0))]⟩]) (fun E => rfl) rfl (fun k fb fb' hk hk' => ?_) (put1 d h.1 h.2 w)
  cases k with
  | zero =>
    simp only [putM, List.getElem?_cons_zero, Option.some.injEq] at hk hk'
    subst hk hk'
    refine ⟨rfl, rfl, rfl, fun E => ?_⟩
    rw [← hb]; rfl
  | succ k => simp at hk

theorem putT4 {val : Nat → Int} {k b : Nat} {d : Int} (hd : val k = d) (h : -2147483648 ≤ d ∧ d ≤ 2147483647) (h0 : val b = byteOf d 0) (h1 : val (b + 1) = byteOf d 1) (h2 : val (b + 2) = byteOf d 2) (h3 : val (b + 3) = byteOf d 3) :
    ∀ w vs, @PtsOf (nameS val sF) w (putM (a k) 4 [u b, u (b + 1), u (b + 2), u (b + 3)]).ps vs → @SummV (nameS val sF) Try.prog (putM (a k) 4 [u b, u (b + 1), u (b + 2), u (b + 3)]).f vs (putM (a k) 4 [u b, u (b + 1), u (b + 2), u (b + 3)]).v0 (putM (a k) 4 [u b, u (b + 1), u (b + 2), u (b + 3)]).bs w := by
  intro w vs hp
  have e := putArgs hd hp
  subst e
  refine summV_congr (I := IC) (J := nameS val sF) (v0 := .sl 0 0 4 4) (bs := [⟨5, false, 1, [.v (.int .u8 (byteOf d 0)), .v (.int .u8 (byteOf d 1)), .v (.int .u8 (byteOf d 2)), .v (.int .u8 (byteOf d 3))]⟩]) (fun E => rfl) rfl (fun k fb fb' hk hk' => ?_) (put4 d h.1 h.2 w)
  cases k with
  | zero =>
    simp only [putM, List.getElem?_cons_zero, Option.some.injEq] at hk hk'
    subst hk hk'
    refine ⟨rfl, rfl, rfl, fun E => ?_⟩
    rw [← h0, ← h1, ← h2, ← h3]; rfl
  | succ k => simp at hk

/-- Calls of modrm.put. -/
theorem tMOK (o : Of c zs) (hb : ∀ z ∈ zs, 0 ≤ z ∧ z ≤ 255) : MTabOK Try.prog (valF cp c.at zs) sF (tM c) := by
  have k1 := g1 (zs := zs) c.at
  have k4 := g4 (zs := zs) c.at
  have ho : c.o = 100 + c.at := by unfold Cfg.o Cfg.at; cases c.sib <;> rfl
  unfold tM
  rw [ho]
  refine mCons (putT1 (d := gv zs c.at 1 true) rfl k1 ?_) (mCons (putT4 (d := gv zs c.at 4 true) rfl k4 ?_ ?_ ?_ ?_) (mCons (putT4 (b := 60) (d := gv zs c.at 1 true) rfl ⟨by omega, by omega⟩ rfl rfl rfl rfl) ?_))
  · rw [byteF, byte_gv1 zs hb]
  · rw [byteF, byte_gv4 zs hb c.at 0 (by omega), Nat.add_zero]
  · rw [Nat.add_assoc, byteF, byte_gv4 zs hb c.at 1 (by omega)]
  · rw [Nat.add_assoc, byteF, byte_gv4 zs hb c.at 2 (by omega)]
  · rw [Nat.add_assoc, byteF, byte_gv4 zs hb c.at 3 (by omega)]
  · cases hf : c.fit
    · exact mNil
    · exact mCons (putT1 (d := gv zs c.at 4 true) rfl (o.fit hf) rfl) mNil

end
end Go.Proofs.Ytbenfglhomiocaa.Fnd
