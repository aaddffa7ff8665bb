/-
  'InstSame' says true of any three instructions.
-/
import Derived.Test.YtndiilfjeconbaaSamK
import Derived.Test.YtndiilfjeconbaaLsaD0
import Derived.Test.YtndiilfjeconbaaLsaD1
namespace Go.Proofs.Ytndiilfjeconbaa.Tab
open Go.Sim
set_option maxRecDepth 100000
set_option linter.unusedSimpArgs false

theorem ls_1111 (ra rb rc : Bool) : LS ra rb rc true true true true := by
  cases ra <;> cases rb <;> cases rc
  · exact ls_fff_1111
  · exact ls_fft_1111
  · exact ls_ftf_1111
  · exact ls_ftt_1111
  · exact ls_tff_1111
  · exact ls_tft_1111
  · exact ls_ttf_1111
  · exact ls_ttt_1111

theorem ls_1011 (ra rb rc : Bool) : LS ra rb rc true false true true := by
  cases ra <;> cases rb <;> cases rc
  · exact ls_fff_1011
  · exact ls_fft_1011
  · exact ls_ftf_1011
  · exact ls_ftt_1011
  · exact ls_tff_1011
  · exact ls_tft_1011
  · exact ls_ttf_1011
  · exact ls_ttt_1011

theorem ls_1010 (ra rb rc : Bool) : LS ra rb rc true false true false := by
  cases ra <;> cases rb <;> cases rc
  · exact ls_fff_1010
  · exact ls_fft_1010
  · exact ls_ftf_1010
  · exact ls_ftt_1010
  · exact ls_tff_1010
  · exact ls_tft_1010
  · exact ls_ttf_1010
  · exact ls_ttt_1010

theorem ls_0101 (ra rb rc : Bool) : LS ra rb rc false true false true := by
  cases ra <;> cases rb <;> cases rc
  · exact ls_fff_0101
  · exact ls_fft_0101
  · exact ls_ftf_0101
  · exact ls_ftt_0101
  · exact ls_tff_0101
  · exact ls_tft_0101
  · exact ls_ttf_0101
  · exact ls_ttt_0101

theorem ls_0100 (ra rb rc : Bool) : LS ra rb rc false true false false := by
  cases ra <;> cases rb <;> cases rc
  · exact ls_fff_0100
  · exact ls_fft_0100
  · exact ls_ftf_0100
  · exact ls_ftt_0100
  · exact ls_tff_0100
  · exact ls_tft_0100
  · exact ls_ttf_0100
  · exact ls_ttt_0100

theorem ls_0001 (ra rb rc : Bool) : LS ra rb rc false false false true := by
  cases ra <;> cases rb <;> cases rc
  · exact ls_fff_0001
  · exact ls_fft_0001
  · exact ls_ftf_0001
  · exact ls_ftt_0001
  · exact ls_tff_0001
  · exact ls_tft_0001
  · exact ls_ttf_0001
  · exact ls_ttt_0001

theorem ls_0000 (ra rb rc : Bool) : LS ra rb rc false false false false := by
  cases ra <;> cases rb <;> cases rc
  · exact ls_fff_0000
  · exact ls_fft_0000
  · exact ls_ftf_0000
  · exact ls_ftt_0000
  · exact ls_tff_0000
  · exact ls_tft_0000
  · exact ls_ttf_0000
  · exact ls_ttt_0000

theorem la (rb rc : Bool) (val : Nat → Int) (sla : Nat → Option Addr × Nat) (h : Holds val [.ge (.a 10) 10]) : LawS false rb rc sla val := by
  cases rb <;> cases rc
  · exact la_fff val sla h
  · exact la_fft val sla h
  · exact la_ftf val sla h
  · exact la_ftt val sla h

theorem lb (ra rc : Bool) (val : Nat → Int) (sla : Nat → Option Addr × Nat) (h : Holds val (.ge (.a 12) 10 :: lenF 0 ra)) : LawS ra false rc sla val := by
  cases ra <;> cases rc
  · exact lb_fff val sla h
  · exact lb_fft val sla h
  · exact lb_tff val sla h
  · exact lb_tft val sla h

theorem lc (ra rb : Bool) (val : Nat → Int) (sla : Nat → Option Addr × Nat) (h : Holds val (.ge (.a 14) 10 :: (lenF 0 ra ++ lenF 1 rb))) : LawS ra rb false sla val := by
  cases ra <;> cases rb
  · exact lc_fff val sla h
  · exact lc_ftf val sla h
  · exact lc_tff val sla h
  · exact lc_ttf val sla h

/-! One of the three. -/

/-- Where it lies: a row of at most nine, or a slice that holds nothing, or more. -/
def Side (w : World) (x : Value) (r : Bool) (zs : List Int) (n b off cap : Nat) (s : Option Addr × Nat) : Prop :=
  match r with
  | true => 0 < n ∧ n ≤ 9 ∧ x = .slice (some ⟨b, off, none⟩) n cap ∧ n ≤ cap ∧ zs.length = 11 * n ∧ b < w.heap.size ∧ (∀ (i : Nat) (m : Int), zs[i]? = some m → w.cell? ⟨b, off + i, none⟩ = some (.int .i64 m)) ∧ ∀ m ∈ zs, (Lit.int .i64 m).wf = true
  | false => x = .slice s.1 n s.2 ∧ ((n = 0 ∧ zs = [] ∧ SliV w x []) ∨ 10 ≤ n)

theorem side_of {w : World} {x : Value} (h : Sim.RowsIn w 11 x) : ∃ r zs n b off cap s, Side w x r zs n b off cap s := by
  rcases h with rfl | ⟨ad, cap, rfl⟩ | ⟨b, off, len, cap, zs, h0, rfl, h1, h2, h3, h4, h5⟩
  · exact ⟨false, [], 0, 0, 0, 0, (none, 0), rfl, .inl ⟨rfl, rfl, .inl ⟨rfl, .inl rfl⟩⟩⟩
  · exact ⟨false, [], 0, 0, 0, 0, (some ad, cap), rfl, .inl ⟨rfl, rfl, .inl ⟨rfl, .inr ⟨ad, cap, rfl⟩⟩⟩⟩
  · by_cases h9 : len ≤ 9
    · exact ⟨true, zs, len, b, off, cap, (none, 0), h0, h9, rfl, h1, by omega, h3, h4, h5⟩
    · exact ⟨false, [], len, 0, 0, 0, (some ⟨b, off, none⟩, cap), rfl, .inr (by omega)⟩

theorem side_sli {w : World} {x : Value} {r : Bool} {zs : List Int} {n b off cap : Nat} {s : Option Addr × Nat} (h : Side w x r zs n b off cap s) (h9 : n ≤ 9) : zs.length = 11 * n ∧ ∀ k : Nat, In64 (zs.getD k 0) := by
  cases r with
  | true =>
    obtain ⟨h0, _, h1, h2, h3, h4, h5, h6⟩ := h
    refine ⟨h3, fun k => ?_⟩
    rw [List.getD_eq_getElem?_getD]
    cases hm : zs[k]? with
    | none => exact ⟨by decide, by decide⟩
    | some m =>
      have h' : (decide (IntKind.i64.min ≤ m) && decide (m ≤ IntKind.i64.max)) = true := h6 m (List.mem_of_getElem? hm)
      simp only [Bool.and_eq_true, decide_eq_true_eq] at h'
      exact h'
  | false =>
    obtain ⟨_, ⟨h0, h1, _⟩ | h⟩ := h
    · subst h1
      exact ⟨by rw [h0]; rfl, fun k => by rw [show ([] : List Int).getD k 0 = 0 by simp]; exact ⟨by decide, by decide⟩⟩
    · omega

abbrev valT (o0 o1 o2 : Int) (n0 c0 n1 c1 n2 c2 : Int) (e0 e1 : Int) (z0 z1 z2 : List Int) : Nat → Int := fun k =>
  if k < 30 then [o0, o1, o2, 0, 0, 0, 0, 0, 0, 0, n0, c0, n1, c1, n2, c2, 0, 0, 0, 0, 0, 0, 0, 0, e0, e1].getD k 0 else if k < 2200 then z0.getD (k - 2000) 0 else if k < 2400 then z1.getD (k - 2200) 0 else z2.getD (k - 2400) 0

/-- What is said of one of the three: the names. -/
structure SideN (w : World) (E : Env) (val : Nat → Int) (sla : Nat → Option Addr × Nat) (op : Int) (x : Value) (r : Bool) (zs : List Int) (n k b : Nat) : Prop where
  op : val k = op
  len : val (10 + 2 * k) = n
  row : r = true → 0 < n ∧ n ≤ 9 ∧ zs.length = 11 * n ∧ (∃ cap : Nat, n ≤ cap ∧ val (11 + 2 * k) = cap ∧ x = .slice (some ⟨E.ρ b, E.κ b, none⟩) n cap) ∧ (∀ i, i < 11 * n → val (2000 + 200 * k + i) = zs.getD i 0) ∧ E.ρ b < w.heap.size ∧
    ∀ (i : Nat) (m : Int), zs[i]? = some m → w.cell? ⟨E.ρ b, E.κ b + i, none⟩ = some (.int .i64 m)
  osl : r = false → @conc (nameS val sla) E0 (.osl (10 + 2 * k)) = x ∧ ((n = 0 ∧ zs = [] ∧ SliV w x []) ∨ 10 ≤ n)

theorem sideN_of {w : World} {E : Env} {val : Nat → Int} {sla : Nat → Option Addr × Nat} {op : Int} {x : Value} {r : Bool} {zs : List Int} {n b off cap k i : Nat} {s : Option Addr × Nat} (h : Side w x r zs n b off cap s) (hop : val k = op) (hn : val (10 + 2 * k) = n) (hc : val (11 + 2 * k) = cap)
    (hz : ∀ i, i < 99 → val (2000 + 200 * k + i) = zs.getD i 0) (hs : sla (10 + 2 * k) = s) (hE : r = true → E.ρ i = b ∧ E.κ i = off) : SideN w E val sla op x r zs n k i := by
  refine ⟨hop, hn, fun hr => ?_, fun hr => ?_⟩
  · subst hr
    obtain ⟨h0, h9, h1, h2, h3, h4, h5, _⟩ := h
    obtain ⟨e1, e2⟩ := hE rfl
    refine ⟨h0, h9, h3, ⟨cap, h2, hc, by rw [e1, e2]; exact h1⟩, fun i hi => hz i (by omega), by rw [e1]; exact h4, by rw [e1, e2]; exact h5⟩
  · subst hr
    obtain ⟨h1, h2⟩ := h
    refine ⟨?_, h2⟩
    rw [h1]
    simp only [conc]
    show Value.slice (sla (10 + 2 * k)).1 (val (10 + 2 * k)).toNat (sla (10 + 2 * k)).2 = _
    rw [hs, hn]
    rfl

theorem argT_conc {val : Nat → Int} {sla : Nat → Option Addr × Nat} {E : Env} {k b : Nat} : @conc (nameS val sla) E (argL k b true) = .agg #[.int .i64 (val k), @conc (nameS val sla) E (.ry b (.c 0) (.a (10 + 2 * k)) (.a (11 + 2 * k)))] := by
  show @conc (nameS val sla) E (.agg [a k, .ry b (.c 0) (.a (10 + 2 * k)) (.a (11 + 2 * k))]) = _
  simp only [conc, concs]
  rfl

theorem argF_conc {val : Nat → Int} {sla : Nat → Option Addr × Nat} {E : Env} {k b : Nat} : @conc (nameS val sla) E (argL k b false) = .agg #[.int .i64 (val k), @conc (nameS val sla) E0 (.osl (10 + 2 * k))] := by
  show @conc (nameS val sla) E (.agg [a k, .osl (10 + 2 * k)]) = _
  simp only [conc, concs]
  rfl

theorem argL_conc {w : World} {E : Env} {val : Nat → Int} {sla : Nat → Option Addr × Nat} {op : Int} {x : Value} {r : Bool} {zs : List Int} {n k b : Nat} (h : SideN w E val sla op x r zs n k b) : @conc (nameS val sla) E (argL k b r) = insV op x := by
  cases r with
  | true =>
    obtain ⟨_, _, _, ⟨cap, _, g2, g3⟩, _⟩ := h.row rfl
    rw [argT_conc, ry_conc h.len g2, h.op, g3]
  | false =>
    obtain ⟨g1, _⟩ := h.osl rfl
    rw [argF_conc, g1, h.op]

/-- In any memory where what was handed in lies: the argument, a slice of the numbers. -/
theorem argL_sli {w w' : World} {E E' : Env} {val : Nat → Int} {sla : Nat → Option Addr × Nat} {op : Int} {x : Value} {r : Bool} {zs : List Int} {k b n : Nat} {outs : List (Nat × List AV)} (h : SideN w E val sla op x r zs n k b) (h9 : n ≤ 9) (hO : @OutOK (nameS val sla) E' w' outs)
    (hb : r = true → outs[b]? = some (0, [.row .i64 (2000 + 200 * k) (.mul (.c 11) (.a (10 + 2 * k)))])) : ∃ y, @conc (nameS val sla) E' (argL k b r) = insV op y ∧ SliV w' y zs := by
  cases r with
  | true =>
    obtain ⟨g0, _, g4, ⟨cap, g1, g3, _⟩, g5, _⟩ := h.row rfl
    exact ⟨.slice (some ⟨E'.ρ b, E'.κ b, none⟩) n cap, by rw [argT_conc, ry_conc h.len g3, h.op], row_sli hO (hb rfl) h.len g0 g1 g4 g5⟩
  | false =>
    obtain ⟨g1, ⟨_, rfl, g2⟩ | h10⟩ := h.osl rfl
    · exact ⟨x, by rw [argF_conc, g1, h.op], sli_nil g2⟩
    · omega

theorem ret14 {w : World} {E : Env} {val : Nat → Int} {sla : Nat → Option Addr × Nat} {op op' : Int} {x x' : Value} {r r' : Bool} {zs zs' : List Int} {k b n k' b' n' : Nat} {outs : List (Nat × List AV)} (h : SideN w E val sla op x r zs n k b) (h' : SideN w E val sla op' x' r' zs' n' k' b') (h9 : n ≤ 9) (h9' : n' ≤ 9)
    (hb : r = true → outs[b]? = some (0, [.row .i64 (2000 + 200 * k) (.mul (.c 11) (.a (10 + 2 * k)))])) (hb' : r' = true → outs[b']? = some (0, [.row .i64 (2000 + 200 * k') (.mul (.c 11) (.a (10 + 2 * k')))])) {p : Bool} (hS : SameR op zs op' zs' p) :
    RetO Try.prog 14 [argL k b r, argL k' b' r'] outs sla val (.bool p) := by
  intro E' w' hO
  obtain ⟨y, g1, g2⟩ := argL_sli h h9 hO hb
  obtain ⟨y', g1', g2'⟩ := argL_sli h' h9' hO hb'
  simp only [concs, g1, g1']
  exact (hS w' y y' g2 g2').1

theorem ret11 {w : World} {E : Env} {val : Nat → Int} {sla : Nat → Option Addr × Nat} {op : Int} {x : Value} {r : Bool} {zs : List Int} {k b n : Nat} {outs : List (Nat × List AV)} (h : SideN w E val sla op x r zs n k b) (h9 : n ≤ 9)
    (hb : r = true → outs[b]? = some (0, [.row .i64 (2000 + 200 * k) (.mul (.c 11) (.a (10 + 2 * k)))])) {v : Value} (hC : RI 11 op zs v) : RetO Try.prog 11 [argL k b r] outs sla val v := by
  intro E' w' hO
  obtain ⟨y, g1, g2⟩ := argL_sli h h9 hO hb
  simp only [concs, g1]
  exact hC w' y g2

theorem tabO_cons {val : Nat → Int} {sla : Nat → Option Addr × Nat} {outs : List (Nat × List AV)} {f : FuncId} {args : List AV} {v : AV} {l : List (FuncId × List AV × AV)} (h : RetO Try.prog f args outs sla val (@conc (nameS val sla) E0 v)) (hl : TabOKO Try.prog val sla outs l) : TabOKO Try.prog val sla outs ((f, args, v) :: l) := by
  intro y hy
  rcases List.mem_cons.1 hy with rfl | hy
  · exact h
  · exact hl y hy

theorem tabO_nil {val : Nat → Int} {sla : Nat → Option Addr × Nat} {outs : List (Nat × List AV)} : TabOKO Try.prog val sla outs [] := fun y hy => by cases hy

theorem outs_cases {r0 r1 r2 : Bool} {k : Nat} {o : Nat × List AV} (h : (outsL r0 r1 r2)[k]? = some o) : (r0 = true ∧ k = 0 ∧ o = (0, [.row .i64 (2000 + 200 * 0) (.mul (.c 11) (.a (10 + 2 * 0)))])) ∨ (r1 = true ∧ k = nR r0 ∧ o = (0, [.row .i64 (2000 + 200 * 1) (.mul (.c 11) (.a (10 + 2 * 1)))])) ∨
    (r2 = true ∧ k = nR r0 + nR r1 ∧ o = (0, [.row .i64 (2000 + 200 * 2) (.mul (.c 11) (.a (10 + 2 * 2)))])) := by
  have hk : k < 3 := by
    have := (List.getElem?_eq_some_iff.1 h).1
    have hl : (outsL r0 r1 r2).length ≤ 3 := by cases r0 <;> cases r1 <;> cases r2 <;> simp [outsL, outL]
    omega
  have hk : k = 0 ∨ k = 1 ∨ k = 2 := by omega
  cases r0 <;> cases r1 <;> cases r2 <;> rcases hk with rfl | rfl | rfl <;> simp [outsL, outL, nR] at h ⊢ <;> exact h.symm

theorem row_ok {w : World} {E : Env} {val : Nat → Int} {sla : Nat → Option Addr × Nat} {op : Int} {x : Value} {zs : List Int} {k b n : Nat} (h : SideN w E val sla op x true zs n k b) {o : Nat × List AV} (ho : o = (0, [.row .i64 (2000 + 200 * k) (.mul (.c 11) (.a (10 + 2 * k)))])) :
    E.ρ b < w.heap.size ∧ (o.1 ≠ 0 → ∀ (i : Nat) (v : AV), o.2[i]? = some v → w.cell? ⟨E.ρ b, E.κ b + i, none⟩ = some (@conc (nameS val sla) E v)) ∧ ∀ ki k1 n1, o = (0, [.row ki k1 n1]) → @RowOK (nameS val sla) E w b ki k1 n1 := by
  obtain ⟨_, _, g3, _, g5, g6, g7⟩ := h.row rfl
  refine row_out (n := n) h.len g3 g5 g6 (fun i z hz => ?_) ho
  rw [List.getElem?_map] at hz
  cases hm : zs[i]? with
  | none => rw [hm] at hz; cases hz
  | some m => rw [hm] at hz; cases hz; exact g7 i m hm

theorem lenF_holds {w : World} {E : Env} {val : Nat → Int} {sla : Nat → Option Addr × Nat} {op : Int} {x : Value} {r : Bool} {zs : List Int} {k b n : Nat} (h : SideN w E val sla op x r zs n k b) (h9 : n ≤ 9) : Holds val (lenF k r) := by
  cases r with
  | true =>
    obtain ⟨g1, _⟩ := h.row rfl
    exact holds_cons (show (1 : Int) ≤ val (10 + 2 * k) by rw [h.len]; omega) (holds_cons (show val (10 + 2 * k) ≤ 9 by rw [h.len]; omega) holds_nil)
  | false =>
    obtain ⟨_, ⟨g1, _⟩ | g⟩ := h.osl rfl
    · exact holds_cons (show val (10 + 2 * k) = 0 by rw [h.len, g1]; rfl) holds_nil
    · omega

theorem long_osl {w : World} {E : Env} {val : Nat → Int} {sla : Nat → Option Addr × Nat} {op : Int} {x : Value} {r : Bool} {zs : List Int} {k b n : Nat} (h : SideN w E val sla op x r zs n k b) (h9 : ¬ n ≤ 9) : r = false := by
  cases r with
  | true => exact absurd (h.row rfl).2.1 h9
  | false => rfl

end Go.Proofs.Ytndiilfjeconbaa.Tab
namespace Go.Proofs.Ytndiilfjeconbaa.instSame
open Go.Sim Go.Proofs.Ytndiilfjeconbaa.Tab
set_option linter.unusedSimpArgs false

theorem walk (o0 : Int) (_ : (Lit.int .i64 o0).wf = true) (x0 : Value) (o1 : Int) (_ : (Lit.int .i64 o1).wf = true) (x1 : Value) (o2 : Int) (_ : (Lit.int .i64 o2).wf = true) (x2 : Value) (w : World) (h0 : Sim.RowsIn w 11 x0) (h1 : Sim.RowsIn w 11 x1) (h2 : Sim.RowsIn w 11 x2) :
    Calls Try.prog 4 #[insV o0 x0, insV o1 x1, insV o2 x2] w fun e w' => e = .returned (.bool true) ∧ RowKit.Below w.heap.size w w' := by
  obtain ⟨r0, z0, n0, b0, f0, c0, s0, d0⟩ := side_of h0
  obtain ⟨r1, z1, n1, b1, f1, c1, s1, d1⟩ := side_of h1
  obtain ⟨r2, z2, n2, b2, f2, c2, s2, d2⟩ := side_of h2
  obtain ⟨E, hE⟩ : ∃ E : Env, E = ⟨fun i => if r0 = true ∧ i = 0 then b0 else if r1 = true ∧ i = nR r0 then b1 else b2, fun i => if r0 = true ∧ i = 0 then f0 else if r1 = true ∧ i = nR r0 then f1 else f2⟩ := ⟨_, rfl⟩
  obtain ⟨sla, hsla⟩ : ∃ sla : Nat → Option Addr × Nat, sla = fun k => if k = 10 then s0 else if k = 12 then s1 else s2 := ⟨_, rfl⟩
  have hEA : r0 = true → E.ρ 0 = b0 ∧ E.κ 0 = f0 := by rintro rfl; rw [hE]; exact ⟨rfl, rfl⟩
  have hEB : r1 = true → E.ρ (nR r0) = b1 ∧ E.κ (nR r0) = f1 := by rintro rfl; rw [hE]; cases r0 <;> exact ⟨rfl, rfl⟩
  have hEC : r2 = true → E.ρ (nR r0 + nR r1) = b2 ∧ E.κ (nR r0 + nR r1) = f2 := by rintro rfl; rw [hE]; cases r0 <;> cases r1 <;> exact ⟨rfl, rfl⟩
  -- the names, whatever Check gives
  have names : ∀ e0 e1 : Int, ∃ val : Nat → Int, SideN w E val sla o0 x0 r0 z0 n0 0 0 ∧ SideN w E val sla o1 x1 r1 z1 n1 1 (nR r0) ∧ SideN w E val sla o2 x2 r2 z2 n2 2 (nR r0 + nR r1) ∧ val 24 = e0 ∧ val 25 = e1 := by
    intro e0 e1
    refine ⟨valT o0 o1 o2 n0 c0 n1 c1 n2 c2 e0 e1 z0 z1 z2, sideN_of d0 rfl rfl rfl (fun i hi => ?_) (by rw [hsla]; rfl) hEA, sideN_of d1 rfl rfl rfl (fun i hi => ?_) (by rw [hsla]; rfl) hEB, sideN_of d2 rfl rfl rfl (fun i hi => ?_) (by rw [hsla]; rfl) hEC, rfl, rfl⟩
    · show (if 2000 + 200 * 0 + i < 30 then _ else if 2000 + 200 * 0 + i < 2200 then z0.getD (2000 + 200 * 0 + i - 2000) 0 else _) = _
      rw [if_neg (by omega), if_pos (by omega), show 2000 + 200 * 0 + i - 2000 = i by omega]
    · show (if 2000 + 200 * 1 + i < 30 then _ else if 2000 + 200 * 1 + i < 2200 then _ else if 2000 + 200 * 1 + i < 2400 then z1.getD (2000 + 200 * 1 + i - 2200) 0 else _) = _
      rw [if_neg (by omega), if_neg (by omega), if_pos (by omega), show 2000 + 200 * 1 + i - 2200 = i by omega]
    · show (if 2000 + 200 * 2 + i < 30 then _ else if 2000 + 200 * 2 + i < 2200 then _ else if 2000 + 200 * 2 + i < 2400 then _ else z2.getD (2000 + 200 * 2 + i - 2400) 0) = _
      rw [if_neg (by omega), if_neg (by omega), if_neg (by omega), show 2000 + 200 * 2 + i - 2400 = i by omega]
  -- from the law by names
  have fin : ∀ val : Nat → Int, SideN w E val sla o0 x0 r0 z0 n0 0 0 → SideN w E val sla o1 x1 r1 z1 n1 1 (nR r0) → SideN w E val sla o2 x2 r2 z2 n2 2 (nR r0 + nR r1) → LawS r0 r1 r2 sla val →
      Calls Try.prog 4 #[insV o0 x0, insV o1 x1, insV o2 x2] w fun e w' => e = .returned (.bool true) ∧ RowKit.Below w.heap.size w w' := by
    intro val k0 k1 k2 hL
    have hO : @OutOK (nameS val sla) E w (outsL r0 r1 r2) := by
      intro k o hk
      rcases outs_cases hk with ⟨rfl, rfl, ho⟩ | ⟨rfl, rfl, ho⟩ | ⟨rfl, rfl, ho⟩
      · exact row_ok k0 ho
      · exact row_ok k1 ho
      · exact row_ok k2 ho
    have := hL E w hO
    simp only [argsL, concs, argL_conc k0, argL_conc k1, argL_conc k2] at this
    exact this
  have oA : r0 = true → (outsL r0 r1 r2)[0]? = some (0, [.row .i64 (2000 + 200 * 0) (.mul (.c 11) (.a (10 + 2 * 0)))]) := by rintro rfl; rfl
  have oB : r1 = true → (outsL r0 r1 r2)[nR r0]? = some (0, [.row .i64 (2000 + 200 * 1) (.mul (.c 11) (.a (10 + 2 * 1)))]) := by rintro rfl; cases r0 <;> rfl
  have oC : r2 = true → (outsL r0 r1 r2)[nR r0 + nR r1]? = some (0, [.row .i64 (2000 + 200 * 2) (.mul (.c 11) (.a (10 + 2 * 2)))]) := by rintro rfl; cases r0 <;> cases r1 <;> rfl
  by_cases g0 : n0 ≤ 9
  case neg =>
    obtain ⟨val, k0, k1, k2, _⟩ := names 0 0
    have := long_osl k0 g0
    subst this
    exact fin val k0 k1 k2 (la r1 r2 val sla (holds_cons (show (10 : Int) ≤ val (10 + 2 * 0) by rw [k0.len]; omega) holds_nil))
  by_cases g1 : n1 ≤ 9
  case neg =>
    obtain ⟨val, k0, k1, k2, _⟩ := names 0 0
    have := long_osl k1 g1
    subst this
    exact fin val k0 k1 k2 (lb r0 r2 val sla (holds_cons (show (10 : Int) ≤ val (10 + 2 * 1) by rw [k1.len]; omega) (lenF_holds k0 g0)))
  by_cases g2 : n2 ≤ 9
  case neg =>
    obtain ⟨val, k0, k1, k2, _⟩ := names 0 0
    have := long_osl k2 g2
    subst this
    exact fin val k0 k1 k2 (lc r0 r1 val sla (holds_cons (show (10 : Int) ≤ val (10 + 2 * 2) by rw [k2.len]; omega) (holds_append (lenF_holds k0 g0) (lenF_holds k1 g1))))
  obtain ⟨q0, i0⟩ := side_sli d0 g0
  obtain ⟨q1, i1⟩ := side_sli d1 g1
  obtain ⟨q2, i2⟩ := side_sli d2 g2
  obtain ⟨_, _, e0, R0, _, ⟨ch0, _⟩, eq0, _, can0⟩ := canD_of (conAll o0 z0 n0 g0 q0 i0)
  obtain ⟨_, _, e1, R1, _, ⟨ch1, _⟩, eq1, _, can1⟩ := canD_of (conAll o1 z1 n1 g1 q1 i1)
  obtain ⟨_, _, e2, R2, _, _, _, _, can2⟩ := canD_of (conAll o2 z2 n2 g2 q2 i2)
  have S01 := same_of q0 q1 g0 can0 can1
  have S12 := same_of q1 q2 g1 can1 can2
  have S10 := same_of q1 q0 g1 can1 can0
  have S02 := same_of q0 q2 g0 can0 can2
  obtain ⟨val, k0, k1, k2, v24, v25⟩ := names e0 e1
  refine fin val k0 k1 k2 ?_
  have lens : Holds val (lensF r0 r1 r2) := holds_append (lenF_holds k0 g0) (holds_append (lenF_holds k1 g1) (lenF_holds k2 g2))
  have tab : ∀ p q r t : Bool, SameR o0 z0 o1 z1 p → SameR o1 z1 o2 z2 q → SameR o1 z1 o0 z0 r → SameR o0 z0 o2 z2 t → (p = true → e0 = 0 ∧ e1 = 0) → TabOKO Try.prog val sla (outsL r0 r1 r2) (tabL r0 r1 r2 p q r t) := by
    intro p q r t hp hq hr ht he
    refine tabO_cons (ret14 k0 k1 g0 g1 oA oB hp) (tabO_cons (ret14 k1 k2 g1 g2 oB oC hq) (tabO_cons (ret14 k1 k0 g1 g0 oB oA hr) (tabO_cons (ret14 k0 k2 g0 g2 oA oC ht) (tabO_cons ?_ (tabO_cons ?_ tabO_nil)))))
    · cases p with
      | true => have := ret11 k0 g0 oA ch0; rw [(he rfl).1] at this; exact this
      | false => have := ret11 k0 g0 oA ch0; rw [← v24] at this; exact this
    · cases p with
      | true => have := ret11 k1 g1 oB ch1; rw [(he rfl).2] at this; exact this
      | false => have := ret11 k1 g1 oB ch1; rw [← v25] at this; exact this
  have opF_holds : o0 = o1 → Holds val (opF true) := fun h => holds_cons (show (val 0 == val 1) = true by rw [k0.op, k1.op, h]; exact beq_self_eq_true o1) holds_nil
  by_cases hp : R0.isSome = true ∧ o0 = o1 ∧ R0 = R1
  · obtain ⟨p1, p2, p3⟩ := hp
    rw [decide_eq_true ⟨p1, p2, p3⟩] at S01
    rw [decide_eq_true ⟨by rw [← p3]; exact p1, p2.symm, p3.symm⟩] at S10
    have he : true = true → e0 = 0 ∧ e1 = 0 := fun _ => ⟨eq0.2 p1, eq1.2 (by rw [← p3]; exact p1)⟩
    by_cases hq : R1.isSome = true ∧ o1 = o2 ∧ R1 = R2
    · rw [decide_eq_true hq] at S12
      rw [decide_eq_true ⟨p1, by rw [p2]; exact hq.2.1, by rw [p3]; exact hq.2.2⟩] at S02
      exact ls_1111 r0 r1 r2 val sla (holds_append (opF_holds p2) lens) (tab true true true true S01 S12 S10 S02 he)
    · rw [decide_eq_false hq] at S12
      by_cases ht : R0.isSome = true ∧ o0 = o2 ∧ R0 = R2
      · rw [decide_eq_true ht] at S02
        exact ls_1011 r0 r1 r2 val sla (holds_append (opF_holds p2) lens) (tab true false true true S01 S12 S10 S02 he)
      · rw [decide_eq_false ht] at S02
        exact ls_1010 r0 r1 r2 val sla (holds_append (opF_holds p2) lens) (tab true false true false S01 S12 S10 S02 he)
  · rw [decide_eq_false hp] at S01
    rw [decide_eq_false (fun h => hp ⟨by rw [← h.2.2]; exact h.1, h.2.1.symm, h.2.2.symm⟩)] at S10
    have he : false = true → e0 = 0 ∧ e1 = 0 := fun h => by cases h
    by_cases hq : R1.isSome = true ∧ o1 = o2 ∧ R1 = R2
    · rw [decide_eq_true hq] at S12
      by_cases ht : R0.isSome = true ∧ o0 = o2 ∧ R0 = R2
      · rw [decide_eq_true ht] at S02
        exact ls_0101 r0 r1 r2 val sla (holds_append holds_nil lens) (tab false true false true S01 S12 S10 S02 he)
      · rw [decide_eq_false ht] at S02
        exact ls_0100 r0 r1 r2 val sla (holds_append holds_nil lens) (tab false true false false S01 S12 S10 S02 he)
    · rw [decide_eq_false hq] at S12
      by_cases ht : R0.isSome = true ∧ o0 = o2 ∧ R0 = R2
      · rw [decide_eq_true ht] at S02
        exact ls_0001 r0 r1 r2 val sla (holds_append holds_nil lens) (tab false false false true S01 S12 S10 S02 he)
      · rw [decide_eq_false ht] at S02
        exact ls_0000 r0 r1 r2 val sla (holds_append holds_nil lens) (tab false false false false S01 S12 S10 S02 he)

end Go.Proofs.Ytndiilfjeconbaa.instSame
