/-
  modrm.Read at any number of any slice: from bytes to names.
-/
import Derived.Test.YtbenfglhomiocaaBrH
import Derived.Test.YtbenfglhomiocaaReadC

namespace Go.Proofs.Ytbenfglhomiocaa.Br
open Go.Sim Go.Proofs.Ytbenfglhomiocaa.Fld Go.Proofs.Ytbenfglhomiocaa.Tab
set_option maxRecDepth 100000

/-- What the names stand for. -/
abbrev valR (zs : List Int) (cp : Int) (o : Nat) (f lo ix d sb hd : Int) : Nat → Int := fun k => if k < 100 then
  (match k with
  | 1 => (zs.length : Int)
  | 2 => cp
  | 3 => (o : Int)
  | 6 => d
  | 9 => hd
  | 10 => f
  | 11 => lo
  | 12 => sb
  | 14 => ix
  | _ => 0)
  else zs.getD (k - 100) 0

/-- A part: the number, or the name's. -/
def pv (v : Int) (c : Nat) : Int := match c with | 8 => v | n => (n : Int)

def RK.rmV (r : RK) (lo : Int) : Int := match r.t with | 0 => lo | 3 => lo | 2 => 5 | _ => 4

def RK.ssV (r : RK) : Int := match r.t with | 1 => 0 | 4 => 0 | _ => (r.ss : Int)

def RK.ixV (r : RK) (ix : Int) : Int := match r.t with | 1 => 4 | 4 => 4 | _ => pv ix r.li

def RK.bsV (r : RK) (lo : Int) : Int := match r.t with | 1 => 5 | 5 => 5 | _ => pv lo r.lb

def RK.dO (r : RK) : Nat := cond r.sib 2 1

/-- The bytes from o on say so; those below lim are bytes. -/
structure OfR (r : RK) (k : Nat) (zs : List Int) (o lim : Nat) (f lo ix d sb hd : Int) : Prop where
  f0 : 0 ≤ f ∧ f ≤ 7
  lo0 : 0 ≤ lo ∧ lo ≤ 7
  ix0 : 0 ≤ ix ∧ ix ≤ 7
  d0 : -2147483648 ≤ d ∧ d ≤ 2147483647
  t6 : r.t ≤ 6
  lb : r.lb = 8 ∨ r.lb ≤ 7
  li : r.li = 8 ∨ r.li ≤ 7
  md : r.md ≤ 3
  ss : r.ss ≤ 3
  k3 : k ≤ 3
  ol : o ≤ zs.length
  len : zs.length ≤ 4611686018427387904
  win : ∀ i, o ≤ i → i < lim → 0 ≤ zs.getD i 0 ∧ zs.getD i 0 ≤ 255
  all : k ≠ 0 → ∀ i, 0 ≤ zs.getD i 0 ∧ zs.getD i 0 ≤ 255
  hd' : k ≠ 1 → o + 1 ≤ zs.length ∧ o + 1 ≤ lim ∧ zs.getD o 0 = hd
  hdv : hd = 64 * (r.md : Int) + 8 * f + r.rmV lo
  cut1 : k = 1 → zs.length = o
  sbv : sb = 64 * r.ssV + 8 * r.ixV ix + r.bsV lo
  sib : r.sib = true → k ≠ 1 → (k = 2 ∧ zs.length = o + 1) ∨ (k ≠ 2 ∧ o + 2 ≤ zs.length ∧ o + 2 ≤ lim ∧ zs.getD (o + 1) 0 = sb)
  no2 : k = 2 → r.sib = true
  dsp : r.dsp ≠ 0 → k = 0 → o + r.dO + r.dsp ≤ zs.length ∧ o + r.dO + r.dsp ≤ lim ∧ gv zs (o + r.dO) r.dsp true = d
  cut3 : r.dsp ≠ 0 → k = 3 → o + r.dO ≤ zs.length ∧ zs.length < o + r.dO + r.dsp
  ne4 : r.t = 3 → lo ≠ 4
  ne5 : r.lb = 8 → (r.t = 4 ∨ r.t = 6 ∨ (r.t = 3 ∧ r.md = 0)) → lo ≠ 5
  ni4 : r.li = 8 → ix ≠ 4

section
variable {r : RK} {k : Nat} {zs : List Int} {cp : Int} {o lim : Nat} {f lo ix d sb hd : Int}

theorem byteR (j : Nat) : valR zs cp o f lo ix d sb hd (100 + j) = zs.getD j 0 := by
  show (if 100 + j < 100 then _ else zs.getD (100 + j - 100) 0) = _
  rw [if_neg (by omega), show 100 + j - 100 = j by omega]

theorem hApp {val : Nat → Int} {l l' : List Fact} (h : Holds val l) (h' : Holds val l') : Holds val (l ++ l') := by
  intro x hx
  rcases List.mem_append.1 hx with hx | hx
  · exact h x hx
  · exact h' x hx

theorem hCond {val : Nat → Int} {b : Bool} {l : List Fact} (h : b = true → Holds val l) : Holds val (cond b l []) := by
  cases b
  · exact holds_nil
  · exact h rfl

theorem beqT {m n : Nat} (h : Nat.beq m n = true) : m = n := Nat.eq_of_beq_eq_true h

/-- What is known. -/
theorem preOK (q : OfR r k zs o lim f lo ix d sb hd) : Holds (valR zs cp o f lo ix d sb hd) (preR r) := by
  have h1 := q.ol
  have h2 := q.len
  refine hApp (holds_cons (show (0 : Int) ≤ (zs.length : Int) by omega) (holds_cons (show (zs.length : Int) ≤ 4611686018427387904 by omega) (holds_cons (show (0 : Int) ≤ (o : Int) by omega) (holds_cons (show (o : Int) ≤ 4611686018427387904 by omega)
    (holds_cons (show decide ((zs.length : Int) < (o : Int)) = false by simp; omega) (holds_cons q.lo0.1 (holds_cons q.lo0.2 (holds_cons q.ix0.1 (holds_cons q.ix0.2 (holds_cons q.d0.1 (holds_cons q.d0.2 holds_nil)))))))))))
    (hApp (hCond fun h => ?_) (hApp (hCond fun h => ?_) (hCond fun h => ?_)))
  · exact holds_cons (q.ne4 (beqT h)) holds_nil
  · obtain ⟨h8, ht⟩ := Bool.and_eq_true_iff.1 h
    refine holds_cons (q.ne5 (beqT h8) ?_) holds_nil
    rcases Bool.or_eq_true_iff.1 ht with ht | ht
    · exact .inl (beqT ht)
    · rcases Bool.or_eq_true_iff.1 ht with ht | ht
      · exact .inr (.inl (beqT ht))
      · obtain ⟨h3, h0⟩ := Bool.and_eq_true_iff.1 ht
        exact .inr (.inr ⟨beqT h3, beqT h0⟩)
  · exact holds_cons (q.ni4 (beqT h)) holds_nil

/-- The three fields of a byte. -/
theorem splitI (h : Int) (h0 : 0 ≤ h) (h1 : h ≤ 255) : Ret Try.prog 22 [.int .i64 h] (.tuple #[.int .i64 (h / 64), .int .i64 (h / 8 % 8), .int .i64 (h % 8)]) := by
  have k := Go.Proofs.Ytbenfglhomiocaa.Rd.split22 h h0 h1
  have e1 : IntKind.i64.wrap (h.tdiv 64) = h / 64 := by rw [Int.tdiv_eq_ediv_of_nonneg h0, wrapI]; omega
  have e2 : (IntKind.i64.wrap (h.tdiv 8)).tmod 8 = h / 8 % 8 := by
    rw [Int.tdiv_eq_ediv_of_nonneg h0, show IntKind.i64.wrap (h / 8) = h / 8 by rw [wrapI]; omega, Int.tmod_eq_emod_of_nonneg (by omega)]
  rw [e1, e2, Int.tmod_eq_emod_of_nonneg h0] at k
  exact k

/-- Of three fields. -/
theorem splitF {h m i j : Int} (hm : 0 ≤ m ∧ m ≤ 3) (hi : 0 ≤ i ∧ i ≤ 7) (hj : 0 ≤ j ∧ j ≤ 7) (e : h = 64 * m + 8 * i + j) : Ret Try.prog 22 [.int .i64 h] (.tuple #[.int .i64 m, .int .i64 i, .int .i64 j]) := by
  have s := splitI h (by omega) (by omega)
  rw [show h / 64 = m by omega, show h / 8 % 8 = i by omega, show h % 8 = j by omega] at s
  exact s

theorem pcR {val : Nat → Int} {n c : Nat} : @conc (nameS val sR) E0 (pc n c) = .int .i64 (pv (val n) c) := by
  by_cases h : c = 8
  · subst h; rfl
  · unfold pc pv
    split
    · exact absurd rfl h
    · split
      · exact absurd rfl h
      · rfl

theorem pv0 {v : Int} {c : Nat} (hv : 0 ≤ v ∧ v ≤ 7) (hc : c = 8 ∨ c ≤ 7) : 0 ≤ pv v c ∧ pv v c ≤ 7 := by
  unfold pv
  split
  · exact hv
  · rename_i h8
    have : c ≠ 8 := fun e => h8 e
    omega

theorem tNil {val : Nat → Int} : TabOK Try.prog val sR [] := fun _ hy => by cases hy

theorem tCons {val : Nat → Int} {g : FuncId} {args : List AV} {u : AV} {tab : List (FuncId × List AV × AV)} (h : Ret Try.prog g (@concs (nameS val sR) E0 args) (@conc (nameS val sR) E0 u)) (ht : TabOK Try.prog val sR tab) : TabOK Try.prog val sR ((g, args, u) :: tab) := by
  intro y hy
  rcases List.mem_cons.1 hy with rfl | hy
  · exact h
  · exact ht y hy

theorem t7 {t : Nat} (h : t ≤ 6) : t = 0 ∨ t = 1 ∨ t = 2 ∨ t = 3 ∨ t = 4 ∨ t = 5 ∨ t = 6 := by omega

theorem rmR (q : OfR r k zs o lim f lo ix d sb hd) : @conc (nameS (valR zs cp o f lo ix d sb hd) sR) E0 r.rm = .int .i64 (r.rmV lo) ∧ 0 ≤ r.rmV lo ∧ r.rmV lo ≤ 7 := by
  have h0 := q.lo0
  have h5 : (0 : Int) ≤ 5 ∧ (5 : Int) ≤ 7 := by decide
  have h4 : (0 : Int) ≤ 4 ∧ (4 : Int) ≤ 7 := by decide
  have ht := q.t6
  clear q
  obtain ⟨t, md, x, b, ss, lb, li⟩ := r
  rcases t7 ht with rfl | rfl | rfl | rfl | rfl | rfl | rfl
  · exact ⟨rfl, h0⟩
  · exact ⟨rfl, h4⟩
  · exact ⟨rfl, h5⟩
  · exact ⟨rfl, h0⟩
  · exact ⟨rfl, h4⟩
  · exact ⟨rfl, h4⟩
  · exact ⟨rfl, h4⟩

theorem sibR (q : OfR r k zs o lim f lo ix d sb hd) : @concs (nameS (valR zs cp o f lo ix d sb hd) sR) E0 r.sibT = [.int .i64 r.ssV, .int .i64 (r.ixV ix), .int .i64 (r.bsV lo)] ∧ (0 ≤ r.ssV ∧ r.ssV ≤ 3) ∧ (0 ≤ r.ixV ix ∧ r.ixV ix ≤ 7) ∧ (0 ≤ r.bsV lo ∧ r.bsV lo ≤ 7) := by
  have a1 := pv0 q.lo0 q.lb
  have a2 := pv0 q.ix0 q.li
  have p1 : @conc (nameS (valR zs cp o f lo ix d sb hd) sR) E0 (pc 11 r.lb) = .int .i64 (pv lo r.lb) := pcR
  have p2 : @conc (nameS (valR zs cp o f lo ix d sb hd) sR) E0 (pc 14 r.li) = .int .i64 (pv ix r.li) := pcR
  have h5 : (0 : Int) ≤ 5 ∧ (5 : Int) ≤ 7 := by decide
  have h4 : (0 : Int) ≤ 4 ∧ (4 : Int) ≤ 7 := by decide
  have h0 : (0 : Int) ≤ 0 ∧ (0 : Int) ≤ 3 := by decide
  have a3 : 0 ≤ (r.ss : Int) ∧ (r.ss : Int) ≤ 3 := ⟨by omega, by have := q.ss; omega⟩
  have ht := q.t6
  clear q
  obtain ⟨t, md, x, b, ss, lb, li⟩ := r
  have g : ∀ (l1 l2 l3 : AV) (v1 v2 v3 : Int), @conc (nameS (valR zs cp o f lo ix d sb hd) sR) E0 l1 = .int .i64 v1 → @conc (nameS (valR zs cp o f lo ix d sb hd) sR) E0 l2 = .int .i64 v2 → @conc (nameS (valR zs cp o f lo ix d sb hd) sR) E0 l3 = .int .i64 v3 →
      @concs (nameS (valR zs cp o f lo ix d sb hd) sR) E0 [l1, l2, l3] = [.int .i64 v1, .int .i64 v2, .int .i64 v3] := fun _ _ _ _ _ _ e1 e2 e3 => by simp only [concs, e1, e2, e3]
  rcases t7 ht with rfl | rfl | rfl | rfl | rfl | rfl | rfl
  · exact ⟨g _ _ _ _ _ _ rfl p2 p1, a3, a2, a1⟩
  · exact ⟨g _ _ _ _ _ _ rfl rfl rfl, h0, h4, h5⟩
  · exact ⟨g _ _ _ _ _ _ rfl p2 p1, a3, a2, a1⟩
  · exact ⟨g _ _ _ _ _ _ rfl p2 p1, a3, a2, a1⟩
  · exact ⟨g _ _ _ _ _ _ rfl rfl p1, h0, h4, a1⟩
  · exact ⟨g _ _ _ _ _ _ rfl p2 rfl, a3, a2, h5⟩
  · exact ⟨g _ _ _ _ _ _ rfl p2 p1, a3, a2, a1⟩

/-- Calls of numbers. -/
theorem tPOK (q : OfR r k zs o lim f lo ix d sb hd) : TabOK Try.prog (valR zs cp o f lo ix d sb hd) sR (tP r) := by
  obtain ⟨m1, m2⟩ := rmR (cp := cp) q
  obtain ⟨s1, s2, s3, s4⟩ := sibR (cp := cp) q
  refine tCons ?_ (tCons ?_ tNil)
  · have e : @conc (nameS (valR zs cp o f lo ix d sb hd) sR) E0 (.tup [ci r.md, a 10, r.rm]) = .tuple #[.int .i64 (r.md : Int), .int .i64 f, .int .i64 (r.rmV lo)] := by
      simp only [conc, concs, m1]; rfl
    rw [e]
    have := q.md
    exact splitF ⟨by omega, by omega⟩ q.f0 m2 q.hdv
  · have e : @conc (nameS (valR zs cp o f lo ix d sb hd) sR) E0 (.tup r.sibT) = .tuple #[.int .i64 r.ssV, .int .i64 (r.ixV ix), .int .i64 (r.bsV lo)] := by
      simp only [conc, s1]
    rw [e]
    exact splitF s2 s3 s4 q.sbv

/-- The slice, where the row lies. -/
theorem sliceR (hc : (zs.length : Int) ≤ cp) {E : Env} {wd : World} (ho : @OutOK (nameS (valR zs cp o f lo ix d sb hd) sR) E wd rowR) : SliceOf wd .u8 (@conc (nameS (valR zs cp o f lo ix d sb hd) sR) E argR) zs := by
  show SliceOf wd .u8 (@conc (nameS (valR zs cp o f lo ix d sb hd) sR) E (.ry 0 (.c (.ofNat 0)) (.a 1) (.a 2))) zs
  rw [@ry0_conc _ (nameS (valR zs cp o f lo ix d sb hd) sR)]
  show SliceOf wd .u8 (.slice (some ⟨E.ρ 0, E.κ 0, none⟩) ((zs.length : Int)).toNat cp.toNat) zs
  obtain ⟨h1, _, h3⟩ := ho 0 _ rfl
  have h3 := h3 .u8 100 (.a 1) rfl
  by_cases h0 : zs.length = 0
  · refine .inl ⟨List.eq_nil_of_length_eq_zero h0, some ⟨E.ρ 0, E.κ 0, none⟩, cp.toNat, ?_⟩
    rw [h0]
    rfl
  · refine .inr ⟨E.ρ 0, E.κ 0, cp.toNat, by omega, by rw [Int.toNat_natCast], by omega, h1, fun i m hm => ?_⟩
    have hi := (List.getElem?_eq_some_iff.1 hm).1
    have := h3 i (show (i : Int) < (zs.length : Int) by omega)
    have this : wd.cell? ⟨E.ρ 0, E.κ 0 + i, none⟩ = some (.int .u8 (valR zs cp o f lo ix d sb hd (100 + i))) := this
    rw [this, byteR, List.getD_eq_getElem?_getD, hm]
    rfl

theorem getOK {q' : Nat} {s : Nat} {g : Bool} (hs : s = 1 ∨ s = 4) (h : q' + s ≤ zs.length) : getN zs q' s g = (gv zs q' s g, 0) := by
  unfold getN
  have hz : isSize s := by unfold isSize; omega
  rw [if_pos hz, if_neg (by omega), if_neg (by omega)]
  simp

theorem getCut {q' : Nat} {s : Nat} {g : Bool} (hs : s = 1 ∨ s = 4) (h0 : q' ≤ zs.length) (h : zs.length < q' + s) : getN zs q' s g = (0, 9) := by
  unfold getN
  have hz : isSize s := by unfold isSize; omega
  rw [if_pos hz, if_neg (by omega), if_pos (by omega)]

theorem gv1 (q' : Nat) (h : 0 ≤ zs.getD q' 0 ∧ zs.getD q' 0 ≤ 255) : gv zs q' 1 false = zs.getD q' 0 := by
  show IntKind.i64.wrap (0 + 2 ^ (8 * 0) * zs.getD (q' + 0) 0) = _
  rw [Nat.add_zero, wrapI]
  simp only [Nat.mul_zero, Int.pow_zero, Int.one_mul, Int.zero_add]
  omega

/-- A call of field.Get: it is there, or cut. -/
theorem gR (hc : (zs.length : Int) ≤ cp) (hl : zs.length ≤ 4611686018427387904) {q' s j : Nat} {x : SX} {g b : Bool} (hs : s = 1 ∨ s = 4) (hx : x.eval (valR zs cp o f lo ix d sb hd) = (q' : Int))
    (hb : b = true → q' + s ≤ zs.length ∧ (∀ i, i < s → 0 ≤ zs.getD (q' + i) 0 ∧ zs.getD (q' + i) 0 ≤ 255) ∧ valR zs cp o f lo ix d sb hd j = gv zs q' s g) (hn : b = false → q' ≤ zs.length ∧ zs.length < q' + s ∧ ∀ i, 0 ≤ zs.getD i 0 ∧ zs.getD i 0 ≤ 255) :
    RetO Try.prog 21 [argR, .sx .i64 x, ci s, bv g] rowR sR (valR zs cp o f lo ix d sb hd) (@conc (nameS (valR zs cp o f lo ix d sb hd) sR) E0 (gt b (a j))) := by
  intro E wd ho
  have e : @concs (nameS (valR zs cp o f lo ix d sb hd) sR) E [argR, .sx .i64 x, ci s, bv g] = [@conc (nameS (valR zs cp o f lo ix d sb hd) sR) E argR, .int .i64 (q' : Int), .int .i64 (s : Int), .bool g] := by
    simp only [concs, conc]
    rw [← hx]; rfl
  rw [e]
  cases b with
  | true =>
    obtain ⟨b1, b2, b3⟩ := hb rfl
    have k := get21w wd _ zs (q' : Int) (s : Int) g (by rw [Int.toNat_natCast, Int.toNat_natCast]; exact b2) (by omega) (sliceR hc ho)
    rw [getOK hs b1] at k
    have e2 : @conc (nameS (valR zs cp o f lo ix d sb hd) sR) E0 (gt true (a j)) = .tuple #[.int .i64 (gv zs q' s g), .int .i64 0] := by
      rw [← b3]; rfl
    rw [e2]
    exact k
  | false =>
    obtain ⟨n1, n2, n3⟩ := hn rfl
    have k := get21w wd _ zs (q' : Int) (s : Int) g (fun i _ => n3 _) (by omega) (sliceR hc ho)
    rw [getCut hs n1 n2] at k
    exact k

theorem oNil {val : Nat → Int} : TabOKO Try.prog val sR rowR [] := fun y hy => by cases hy

theorem oCons {val : Nat → Int} {g : FuncId} {args : List AV} {u : AV} {tab : List (FuncId × List AV × AV)} (h : RetO Try.prog g args rowR sR val (@conc (nameS val sR) E0 u)) (ht : TabOKO Try.prog val sR rowR tab) : TabOKO Try.prog val sR rowR ((g, args, u) :: tab) := by
  intro y hy
  rcases List.mem_cons.1 hy with rfl | hy
  · exact h
  · exact ht y hy

theorem oApp {val : Nat → Int} {l l' : List (FuncId × List AV × AV)} (h : TabOKO Try.prog val sR rowR l) (h' : TabOKO Try.prog val sR rowR l') : TabOKO Try.prog val sR rowR (l ++ l') := by
  intro y hy
  rcases List.mem_append.1 hy with hy | hy
  · exact h y hy
  · exact h' y hy

theorem at1R (hl : o ≤ 4611686018427387904) : at1.eval (valR zs cp o f lo ix d sb hd) = ((o + 1 : Nat) : Int) := by
  show IntKind.i64.wrap ((o : Int) + 1) = _
  rw [wrapI]; omega

theorem at2R (hl : o ≤ 4611686018427387904) : at2.eval (valR zs cp o f lo ix d sb hd) = ((o + 2 : Nat) : Int) := by
  show IntKind.i64.wrap (at1.eval (valR zs cp o f lo ix d sb hd) + 1) = _
  rw [at1R hl, wrapI]; omega

theorem dspIs (r : RK) : r.dsp = 0 ∨ r.dsp = 1 ∨ r.dsp = 4 := by
  unfold RK.dsp
  split
  · exact .inl rfl
  · exact .inr (.inl rfl)
  · exact .inr (.inr rfl)
  · cases (Nat.beq r.t 1 || (Nat.beq r.t 2 || Nat.beq r.t 5))
    · exact .inl rfl
    · exact .inr (.inr rfl)

/-- Calls of field.Get. -/
theorem tQOK (q : OfR r k zs o lim f lo ix d sb hd) (hc : (zs.length : Int) ≤ cp) : TabOKO Try.prog (valR zs cp o f lo ix d sb hd) sR rowR (tQ r k) := by
  have ho : o ≤ 4611686018427387904 := Nat.le_trans q.ol q.len
  unfold tQ
  refine oCons ?_ ?_
  · refine gR (j := 9) (q' := o) (s := 1) hc q.len (.inl rfl) rfl (fun h => ?_) (fun h => ?_)
    · have h1 : k ≠ 1 := fun e => by rw [e] at h; cases h
      obtain ⟨a1, a2, a3⟩ := q.hd' h1
      have w0 := q.win o (Nat.le_refl _) (by omega)
      refine ⟨a1, fun i hi => by rw [show o + i = o by omega]; exact w0, ?_⟩
      rw [gv1 o w0, a3]; rfl
    · have h1 : k = 1 := by
        cases hb : Nat.beq k 1 with
        | true => exact beqT hb
        | false => rw [hb] at h; cases h
      have := q.cut1 h1
      exact ⟨by omega, by omega, q.all (by omega)⟩
  · cases hk1 : Nat.beq k 1 with
    | true => exact oNil
    | false =>
      have h1 : k ≠ 1 := fun e => by rw [e] at hk1; cases hk1
      refine oApp ?_ ?_
      · cases hsib : r.sib with
        | false => exact oNil
        | true =>
          refine oCons (gR (j := 12) (q' := o + 1) (s := 1) hc q.len (.inl rfl) (at1R ho) (fun h => ?_) (fun h => ?_)) oNil
          · have h2 : k ≠ 2 := fun e => by rw [e] at h; cases h
            rcases q.sib hsib h1 with ⟨e, _⟩ | ⟨_, b1, b2, b3⟩
            · exact absurd e h2
            · have w0 := q.win (o + 1) (by omega) (by omega)
              refine ⟨by omega, fun i hi => by rw [show o + 1 + i = o + 1 by omega]; exact w0, ?_⟩
              rw [gv1 (o + 1) w0, b3]; rfl
          · have h2 : k = 2 := by
              cases hb : Nat.beq k 2 with
              | true => exact beqT hb
              | false => rw [hb] at h; cases h
            rcases q.sib hsib h1 with ⟨_, e⟩ | ⟨e, _⟩
            · exact ⟨by omega, by omega, q.all (by omega)⟩
            · exact absurd h2 e
      · cases hk2 : Nat.beq k 2 with
        | true => exact oNil
        | false =>
          have h2 : k ≠ 2 := fun e => by rw [e] at hk2; cases hk2
          have hat : r.dAt.eval (valR zs cp o f lo ix d sb hd) = ((o + r.dO : Nat) : Int) := by
            unfold RK.dAt RK.dO
            cases r.sib
            · exact at1R ho
            · exact at2R ho
          have hcase : k = 0 ∨ k = 3 := by have := q.k3; omega
          have key : ∀ n, r.dsp = n → (n = 1 ∨ n = 4) → TabOKO Try.prog (valR zs cp o f lo ix d sb hd) sR rowR [(21, [argR, .sx .i64 r.dAt, ci n, bv true], gt (!Nat.beq k 3) (a 6))] := by
            intro n hn h14
            refine oCons (gR (j := 6) (q' := o + r.dO) (s := n) hc q.len h14 hat (fun h => ?_) (fun h => ?_)) oNil
            · have h0 : k = 0 := by
                rcases hcase with e | e
                · exact e
                · rw [e] at h; cases h
              obtain ⟨b1, b2, b3⟩ := q.dsp (by omega) h0
              rw [hn] at b1 b2 b3
              have hdO : 1 ≤ r.dO := by unfold RK.dO; cases r.sib <;> decide
              exact ⟨b1, fun i hi => q.win _ (by omega) (by omega), b3.symm⟩
            · have h3 : k = 3 := by
                rcases hcase with e | e
                · rw [e] at h; cases h
                · exact e
              obtain ⟨b1, b2⟩ := q.cut3 (by omega) h3
              rw [hn] at b2
              exact ⟨b1, b2, q.all (by omega)⟩
          rcases dspIs r with e | e | e
          · rw [e]; exact oNil
          · have := key 1 e (.inl rfl)
            rw [e]; exact this
          · have := key 4 e (.inr rfl)
            rw [e]; exact this

/-- What Read gives of these bytes. -/
theorem readR (hr : RA r k) (q : OfR r k zs o lim f lo ix d sb hd) (w : World) (p cap : Nat) (hp : p < w.heap.size) (hcap : zs.length ≤ cap) (hcell : ∀ (i : Nat) (n : Int), zs[i]? = some n → w.cell? ⟨p, i, none⟩ = some (.int .u8 n)) :
    Calls Try.prog 9 #[.slice (some ⟨p, 0, none⟩) zs.length cap, .int .i64 o, .int .i64 r.x, .int .i64 r.b] w fun e w' => e = .returned (@conc (nameS (valR zs (cap : Int) o f lo ix d sb hd) sR) E0 (r.res k)) ∧ RowKit.Below w.heap.size w w' := by
  have l := hr (valR zs (cap : Int) o f lo ix d sb hd) (preOK q) (tPOK q) (tQOK q (by omega)) ⟨fun _ => p, fun _ => 0⟩ w (rowOut hp rfl (fun i _ => byteR i) (fun i n hn => by rw [Nat.zero_add]; exact hcell i n hn))
  have e : @concs (nameS (valR zs (cap : Int) o f lo ix d sb hd) sR) ⟨fun _ => p, fun _ => 0⟩ (argsR r) = [.slice (some ⟨p, 0, none⟩) zs.length cap, .int .i64 o, .int .i64 r.x, .int .i64 r.b] := by
    show @conc (nameS (valR zs (cap : Int) o f lo ix d sb hd) sR) ⟨fun _ => p, fun _ => 0⟩ (.ry 0 (.c (.ofNat 0)) (.a 1) (.a 2)) :: _ = _
    rw [@ry0_conc _ (nameS (valR zs (cap : Int) o f lo ix d sb hd) sR)]
    rfl
  rw [e] at l
  exact l

end
end Go.Proofs.Ytbenfglhomiocaa.Br
