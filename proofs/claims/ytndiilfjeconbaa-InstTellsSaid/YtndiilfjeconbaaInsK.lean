/-
  What Bits, Check and Canon, and the document's, give of any instruction.
-/
import Derived.Test.YtndiilfjeconbaaArgJ
import Derived.Test.YtndiilfjeconbaaNim0
import Derived.Test.YtndiilfjeconbaaNim1
import Derived.Test.YtndiilfjeconbaaNim2
import Derived.Test.YtndiilfjeconbaaInsB0
import Derived.Test.YtndiilfjeconbaaInsB1
import Derived.Test.YtndiilfjeconbaaInsC0
import Derived.Test.YtndiilfjeconbaaInsC1
import Derived.Test.YtndiilfjeconbaaInsC2
import Derived.Test.YtndiilfjeconbaaInsC3
import Derived.Test.YtndiilfjeconbaaInsC4
import Derived.Test.YtndiilfjeconbaaInsC5
import Derived.Test.YtndiilfjeconbaaCanD0
import Derived.Test.YtndiilfjeconbaaCanD1
import Derived.Test.YtndiilfjeconbaaCanD2
import Derived.Test.YtndiilfjeconbaaCanD3
namespace Go.Proofs.Ytndiilfjeconbaa.Tab
open Go.Sim
set_option maxRecDepth 100000

/-- What bears names. -/
abbrev vI (op : Int) (zs N : List Int) (A I : Nat → List Int) (b s e : Int) : Nat → Int := fun k =>
  if k < 40 then [op, 0, N.getD 0 0, N.getD 1 0, N.getD 2 0, b, s, e].getD k 0
  else if (k - 40) % 40 < 11 then zs.getD (11 * ((k - 40) / 40) + (k - 40) % 40) 0
  else if (k - 40) % 40 < 13 then (A ((k - 40) / 40)).getD ((k - 40) % 40) 0
  else if (k - 40) % 40 < 31 then (A ((k - 40) / 40)).getD ((k - 40) % 40 - 20) 0
  else (I ((k - 40) / 40)).getD ((k - 40) % 40 - 31) 0

def NameC (op : Int) (N : List Int) : Prop := 0 ≤ N.getD 1 0 ∧ Ret Try.prog 25 [.int .i64 op] (.bool (N.getD 0 0 == 1)) ∧ Ret Try.prog 41 [.int .i64 op] (.bool (N.getD 0 0 == 1)) ∧ Ret Try.prog 28 [.int .i64 op] (.tuple #[.int .i64 (N.getD 1 0), .bool (N.getD 2 0 == 1)]) ∧ Ret Try.prog 40 [.int .i64 op] (.tuple #[.int .i64 (N.getD 1 0), .bool (N.getD 2 0 == 1)])

theorem nameC (op : Int) : ∃ N, NameC op N := by
  obtain ⟨Y, h3, h0, h⟩ := nameJ (fun _ => op)
  exact ⟨Y, h0, h (25, [.b 0]) (by simp [nspecs]), h (41, [.b 0]) (by simp [nspecs]), h (28, [.i 1, .b 2]) (by simp [nspecs]), h (40, [.i 1, .b 2]) (by simp [nspecs])⟩

abbrev canV (v : Nat → Int) (Y : List Int) : Value := .tuple #[.agg #[.int .i64 (v 0), .int .i64 (Y.getD 1 0), .int .i64 (Y.getD 2 0), .int .i64 (Y.getD 3 0), .int .i64 (Y.getD 4 0), .int .i64 (Y.getD 5 0), .int .i64 (Y.getD 6 0), .int .i64 (Y.getD 7 0), .int .i64 (Y.getD 8 0), .int .i64 (Y.getD 9 0), .int .i64 (Y.getD 10 0)], .int .i64 0]

def ArgC (v : Nat → Int) (Y : List Int) : Prop := Ret Try.prog 26 [argV v] (.int .i64 (Y.getD 11 0)) ∧ Ret Try.prog 43 [argV v] (.int .i64 (Y.getD 11 0)) ∧ Ret Try.prog 29 [argV v] (.int .i64 (Y.getD 12 0)) ∧ Ret Try.prog 42 [argV v] (.int .i64 (Y.getD 12 0)) ∧
  (Y.getD 11 0 = 0 → Ret Try.prog 32 [argV v] (canV v Y) ∧ Ret Try.prog 36 [argV v] (canV v Y) ∧ (v 0 = 3 → Y.getD 10 0 = v 10))

theorem argC (v : Nat → Int) : ∃ Y, ArgC v Y := by
  obtain ⟨Y, h13, hphi, h⟩ := argJ v
  refine ⟨Y, h (26, [.i 11]) (by simp [specs]), h (43, [.i 11]) (by simp [specs]), h (29, [.i 12]) (by simp [specs]), h (42, [.i 12]) (by simp [specs]), fun h0 => ?_⟩
  obtain ⟨p1, p2⟩ := hphi h0
  have e : shV [.g 0 11, .i 11] Y = canV v Y := by
    match Y, h13, p1, h0 with
    | [y0, y1, y2, y3, y4, y5, y6, y7, y8, y9, y10, y11, y12], _, p1, h0 =>
      have p1 : y0 = v 0 := p1
      have h0 : y11 = 0 := h0
      subst p1 h0
      rfl
  have k1 := h (32, [.g 0 11, .i 11]) (by simp [specs])
  have k2 := h (36, [.g 0 11, .i 11]) (by simp [specs])
  rw [e] at k1 k2
  exact ⟨k1, k2, p2⟩

def ImmC (n b s : Int) (Y : List Int) : Prop := Ret Try.prog 27 [.int .i64 n, .int .i64 b, .bool (s == 1)] (.tuple #[.int .i64 (Y.getD 1 0), .int .i64 (Y.getD 0 0)]) ∧ Ret Try.prog 37 [.int .i64 n, .int .i64 b, .bool (s == 1)] (.tuple #[.int .i64 (Y.getD 1 0), .int .i64 (Y.getD 0 0)])

def In64 (n : Int) : Prop := -9223372036854775808 ≤ n ∧ n ≤ 9223372036854775807

theorem immC (n b s : Int) (hn : In64 n) : ∃ Y, ImmC n b s Y := by
  have hF : Holds (fun i => if i = 0 then n else b) [.ge (.a 0) (-9223372036854775808), .le (.a 0) 9223372036854775807] := holds_cons hn.1 (holds_cons hn.2 holds_nil)
  unfold ImmC
  cases s == 1 with
  | true =>
    obtain ⟨Y, _, h⟩ := immTrue _ hF
    exact ⟨Y, h (27, [.i 1, .i 0]) (by simp [ispecs]), h (37, [.i 1, .i 0]) (by simp [ispecs])⟩
  | false =>
    obtain ⟨Y, _, h⟩ := immFalse _ hF
    exact ⟨Y, h (27, [.i 1, .i 0]) (by simp [ispecs]), h (37, [.i 1, .i 0]) (by simp [ispecs])⟩

theorem immZ : ImmZ := by
  intro n s
  letI := symsOf (fun _ => n) [] holds_nil sl0
  have key : ∀ f, f = 27 ∨ f = 37 → Ret Try.prog f (concs E0 [.sx .i64 (.a 0), .v (.int .i64 0), .v (.bool s)]) (shV [.i 0, .i 1] [0, 2]) := by
    intro f hf
    cases s <;> rcases hf with rfl | rfl <;> exact ret_of_gives (orc := noOrc) (fuel := 1000) (sh := [.i 0, .i 1]) (Y := [.c 0, .c 2]) noOrc_sound mixK (by kernel_rfl) (by kernel_rfl)
  exact ⟨key 27 (.inl rfl), key 37 (.inr rfl)⟩

section
variable {op : Int} {zs N : List Int} {A I : Nat → List Int} {b s e : Int}

theorem nm_of {n : Nat} (hl : zs.length = 11 * n) : NmN (vI op zs N A I b s e) op zs n := by
  refine ⟨rfl, hl, fun i _ => ?_⟩
  show (if 40 + 40 * (i / 11) + i % 11 < 40 then _ else if (40 + 40 * (i / 11) + i % 11 - 40) % 40 < 11 then zs.getD (11 * ((40 + 40 * (i / 11) + i % 11 - 40) / 40) + (40 + 40 * (i / 11) + i % 11 - 40) % 40) 0 else _) = _
  have e1 : (40 + 40 * (i / 11) + i % 11 - 40) % 40 = i % 11 := by omega
  have e2 : (40 + 40 * (i / 11) + i % 11 - 40) / 40 = i / 11 := by omega
  rw [if_neg (by omega), e1, e2, if_pos (by omega), show 11 * (i / 11) + i % 11 = i by omega]

theorem nameH_of (h : NameC op N) : NameH (vI op zs N A I b s e) := h.2

theorem argH0_of (h : ∀ k : Nat, ArgC (fun i => zs.getD (11 * k + i) 0) (A k)) : ArgH0 (vI op zs N A I b s e) :=
  ⟨(h 0).1, (h 0).2.1, (h 0).2.2.1, (h 0).2.2.2.1⟩

theorem immH0_of (h : ∀ k : Nat, k < 4 → ImmC (zs.getD (11 * k + 10) 0) b s (I k)) : ImmH0 (vI op zs N A I b s e) :=
  h 0 (by omega)

theorem canH0_of (h : ∀ k : Nat, ArgC (fun i => zs.getD (11 * k + i) 0) (A k)) (h0 : (A 0).getD 11 0 = 0) : CanH0 (vI op zs N A I b s e) :=
  ⟨((h 0).2.2.2.2 h0).1, ((h 0).2.2.2.2 h0).2.1⟩

theorem canH0i_of (h : ∀ k : Nat, ArgC (fun i => zs.getD (11 * k + i) 0) (A k)) (hI : ∀ k : Nat, k < 4 → ImmC (zs.getD (11 * k + 10) 0) b s (I k)) (h0 : (A 0).getD 11 0 = 0) (h3 : zs.getD 0 0 = 3) (hi : (I 0).getD 0 0 = 0) : CanH0i (vI op zs N A I b s e) := by
  obtain ⟨k1, k2, k3⟩ := (h 0).2.2.2.2 h0
  obtain ⟨i1, i2⟩ := hI 0 (by omega)
  have k3 : (A 0).getD 10 0 = zs.getD 10 0 := k3 h3
  simp only [canV] at k1 k2
  rw [k3] at k1 k2
  rw [hi] at i1 i2
  exact ⟨k1, k2, i1, i2⟩

theorem argH1_of (h : ∀ k : Nat, ArgC (fun i => zs.getD (11 * k + i) 0) (A k)) : ArgH1 (vI op zs N A I b s e) :=
  ⟨(h 1).1, (h 1).2.1, (h 1).2.2.1, (h 1).2.2.2.1⟩

theorem immH1_of (h : ∀ k : Nat, k < 4 → ImmC (zs.getD (11 * k + 10) 0) b s (I k)) : ImmH1 (vI op zs N A I b s e) :=
  h 1 (by omega)

theorem canH1_of (h : ∀ k : Nat, ArgC (fun i => zs.getD (11 * k + i) 0) (A k)) (h0 : (A 1).getD 11 0 = 0) : CanH1 (vI op zs N A I b s e) :=
  ⟨((h 1).2.2.2.2 h0).1, ((h 1).2.2.2.2 h0).2.1⟩

theorem canH1i_of (h : ∀ k : Nat, ArgC (fun i => zs.getD (11 * k + i) 0) (A k)) (hI : ∀ k : Nat, k < 4 → ImmC (zs.getD (11 * k + 10) 0) b s (I k)) (h0 : (A 1).getD 11 0 = 0) (h3 : zs.getD 11 0 = 3) (hi : (I 1).getD 0 0 = 0) : CanH1i (vI op zs N A I b s e) := by
  obtain ⟨k1, k2, k3⟩ := (h 1).2.2.2.2 h0
  obtain ⟨i1, i2⟩ := hI 1 (by omega)
  have k3 : (A 1).getD 10 0 = zs.getD 21 0 := k3 h3
  simp only [canV] at k1 k2
  rw [k3] at k1 k2
  rw [hi] at i1 i2
  exact ⟨k1, k2, i1, i2⟩

theorem argH2_of (h : ∀ k : Nat, ArgC (fun i => zs.getD (11 * k + i) 0) (A k)) : ArgH2 (vI op zs N A I b s e) :=
  ⟨(h 2).1, (h 2).2.1, (h 2).2.2.1, (h 2).2.2.2.1⟩

theorem immH2_of (h : ∀ k : Nat, k < 4 → ImmC (zs.getD (11 * k + 10) 0) b s (I k)) : ImmH2 (vI op zs N A I b s e) :=
  h 2 (by omega)

theorem canH2_of (h : ∀ k : Nat, ArgC (fun i => zs.getD (11 * k + i) 0) (A k)) (h0 : (A 2).getD 11 0 = 0) : CanH2 (vI op zs N A I b s e) :=
  ⟨((h 2).2.2.2.2 h0).1, ((h 2).2.2.2.2 h0).2.1⟩

theorem canH2i_of (h : ∀ k : Nat, ArgC (fun i => zs.getD (11 * k + i) 0) (A k)) (hI : ∀ k : Nat, k < 4 → ImmC (zs.getD (11 * k + 10) 0) b s (I k)) (h0 : (A 2).getD 11 0 = 0) (h3 : zs.getD 22 0 = 3) (hi : (I 2).getD 0 0 = 0) : CanH2i (vI op zs N A I b s e) := by
  obtain ⟨k1, k2, k3⟩ := (h 2).2.2.2.2 h0
  obtain ⟨i1, i2⟩ := hI 2 (by omega)
  have k3 : (A 2).getD 10 0 = zs.getD 32 0 := k3 h3
  simp only [canV] at k1 k2
  rw [k3] at k1 k2
  rw [hi] at i1 i2
  exact ⟨k1, k2, i1, i2⟩

theorem argH3_of (h : ∀ k : Nat, ArgC (fun i => zs.getD (11 * k + i) 0) (A k)) : ArgH3 (vI op zs N A I b s e) :=
  ⟨(h 3).1, (h 3).2.1, (h 3).2.2.1, (h 3).2.2.2.1⟩

theorem immH3_of (h : ∀ k : Nat, k < 4 → ImmC (zs.getD (11 * k + 10) 0) b s (I k)) : ImmH3 (vI op zs N A I b s e) :=
  h 3 (by omega)

theorem canH3_of (h : ∀ k : Nat, ArgC (fun i => zs.getD (11 * k + i) 0) (A k)) (h0 : (A 3).getD 11 0 = 0) : CanH3 (vI op zs N A I b s e) :=
  ⟨((h 3).2.2.2.2 h0).1, ((h 3).2.2.2.2 h0).2.1⟩

theorem canH3i_of (h : ∀ k : Nat, ArgC (fun i => zs.getD (11 * k + i) 0) (A k)) (hI : ∀ k : Nat, k < 4 → ImmC (zs.getD (11 * k + 10) 0) b s (I k)) (h0 : (A 3).getD 11 0 = 0) (h3 : zs.getD 33 0 = 3) (hi : (I 3).getD 0 0 = 0) : CanH3i (vI op zs N A I b s e) := by
  obtain ⟨k1, k2, k3⟩ := (h 3).2.2.2.2 h0
  obtain ⟨i1, i2⟩ := hI 3 (by omega)
  have k3 : (A 3).getD 10 0 = zs.getD 43 0 := k3 h3
  simp only [canV] at k1 k2
  rw [k3] at k1 k2
  rw [hi] at i1 i2
  exact ⟨k1, k2, i1, i2⟩

end

/-- What is known of an instruction: Bits, Check, Canon. -/
def Con (op : Int) (zs : List Int) (n : Nat) : Prop := ∃ b s e : Int, (RI 12 op zs (.tuple #[.int .i64 b, .bool (s == 1)]) ∧ RI 18 op zs (.tuple #[.int .i64 b, .bool (s == 1)])) ∧ (RI 11 op zs (.int .i64 e) ∧ RI 19 op zs (.int .i64 e)) ∧
  ((e ≠ 0 ∧ RI 16 op zs (errK e) ∧ RI 17 op zs (errK e)) ∨ (e = 0 ∧ n = 0 ∧ CanZ op) ∨ (e = 0 ∧ 1 ≤ n ∧ n ≤ 4 ∧ ∃ fm cells, fmB n fm = true ∧ CanR fm op zs cells))

theorem atF {val : Nat → Int} {x y : SX} {p q : Int} (hx : x.eval val = p) (hy : y.eval val = q) : (p < q → (Fact.at (.lt x y) true).holds val ∧ (Fact.at (.le y x) false).holds val) ∧ (¬ p < q → (Fact.at (.lt x y) false).holds val ∧ (Fact.at (.le y x) true).holds val) := by
  refine ⟨fun h => ⟨?_, ?_⟩, fun h => ⟨?_, ?_⟩⟩
  · show decide (x.eval val < y.eval val) = true; rw [hx, hy]; exact decide_eq_true h
  · show decide (y.eval val ≤ x.eval val) = false; rw [hx, hy]; exact decide_eq_false (by omega)
  · show decide (x.eval val < y.eval val) = false; rw [hx, hy]; exact decide_eq_false h
  · show decide (y.eval val ≤ x.eval val) = true; rw [hx, hy]; exact decide_eq_true (by omega)

theorem con0 (op : Int) (zs : List Int) (hl : zs.length = 11 * 0) (hr : ∀ k : Nat, In64 (zs.getD k 0)) : Con op zs 0 := by
  obtain rfl : zs = [] := by simpa using hl
  obtain ⟨N, hN⟩ := nameC op
  obtain ⟨A, hA⟩ : ∃ A : Nat → List Int, ∀ k : Nat, ArgC (fun i => ([] : List Int).getD (11 * k + i) 0) (A k) := ⟨fun k => Classical.choose (argC (fun i => ([] : List Int).getD (11 * k + i) 0)), fun k => Classical.choose_spec (argC (fun i => ([] : List Int).getD (11 * k + i) 0))⟩
  obtain ⟨B, _, _, hB0⟩ := riZ (val := (vI op [] N A (fun _ => []) 0 0 0)) (op := op) rfl rfl (bitsQ0 (vI op [] N A (fun _ => []) 0 0 0) (holds_cons (show 0 ≤ N.getD 1 0 from hN.1) (holds_cons (show (0 : Int) = 0 from rfl) holds_nil)) (nameH_of hN))
  have hB : RI 12 op [] (.tuple #[.int .i64 (B.getD 0 0), .bool (B.getD 1 0 == 1)]) ∧ RI 18 op [] (.tuple #[.int .i64 (B.getD 0 0), .bool (B.getD 1 0 == 1)]) := ⟨hB0 12 [.i 0, .b 1] (by simp) (by simp), hB0 18 [.i 0, .b 1] (by simp) (by simp)⟩
  generalize B.getD 0 0 = b at hB
  generalize B.getD 1 0 = s at hB
  obtain ⟨I, hI⟩ : ∃ I : Nat → List Int, ∀ k : Nat, k < 4 → ImmC (([] : List Int).getD (11 * k + 10) 0) b s (I k) := ⟨fun k => Classical.choose (immC (([] : List Int).getD (11 * k + 10) 0) b s (hr (11 * k + 10))), fun k _ => Classical.choose_spec (immC (([] : List Int).getD (11 * k + 10) 0) b s (hr (11 * k + 10)))⟩
  have hC : ∃ Y : List Int, Y.length = 1 ∧ PhiC0 (vI op [] N A I b s 0) Y ∧ RI 11 op [] (.int .i64 (Y.getD 0 0)) ∧ RI 19 op [] (.int .i64 (Y.getD 0 0)) := by
    by_cases hb : b = 0
    · obtain ⟨Y, h1, h2, h3⟩ := riZ (val := (vI op [] N A I b s 0)) (op := op) rfl rfl (checkQ0z (vI op [] N A I b s 0) (holds_cons (show (0 : Int) = 0 from rfl) holds_nil) op [] (nm_of hl) (nameH_of hN) immZ hb hB)
      exact ⟨Y, h1, h2, h3 11 [.i 0] (by simp) (by simp), h3 19 [.i 0] (by simp) (by simp)⟩
    · obtain ⟨Y, h1, h2, h3⟩ := riZ (val := (vI op [] N A I b s 0)) (op := op) rfl rfl (checkQ0 (vI op [] N A I b s 0) (holds_cons (show b ≠ 0 from hb) (holds_cons (show (0 : Int) = 0 from rfl) holds_nil)) op [] (nm_of hl) (nameH_of hN) hB)
      exact ⟨Y, h1, h2, h3 11 [.i 0] (by simp) (by simp), h3 19 [.i 0] (by simp) (by simp)⟩
  obtain ⟨Y, _, hphi, hC⟩ := hC
  refine ⟨b, s, Y.getD 0 0, hB, hC, ?_⟩
  by_cases he : Y.getD 0 0 = 0
  · refine .inr (.inl ⟨he, rfl, canZ_of (val := (vI op [] N A I b s (Y.getD 0 0))) rfl rfl (canQ0_0 (vI op [] N A I b s (Y.getD 0 0)) (holds_cons (show Y.getD 0 0 = 0 from he) (holds_cons (show (0 : Int) = 0 from rfl) holds_nil)) op [] (nm_of hl) hC hB)⟩)
  · exact .inl ⟨he, errZ_of (val := (vI op [] N A I b s (Y.getD 0 0))) rfl rfl (canEQ0 (vI op [] N A I b s (Y.getD 0 0)) (holds_cons (show Y.getD 0 0 ≠ 0 from he) (holds_cons (show (0 : Int) = 0 from rfl) holds_nil)) op [] (nm_of hl) hC)⟩

theorem con1 (op : Int) (zs : List Int) (hl : zs.length = 11 * 1) (hr : ∀ k : Nat, In64 (zs.getD k 0)) : Con op zs 1 := by
  obtain ⟨N, hN⟩ := nameC op
  obtain ⟨A, hA⟩ : ∃ A : Nat → List Int, ∀ k : Nat, ArgC (fun i => zs.getD (11 * k + i) 0) (A k) := ⟨fun k => Classical.choose (argC (fun i => zs.getD (11 * k + i) 0)), fun k => Classical.choose_spec (argC (fun i => zs.getD (11 * k + i) 0))⟩
  obtain ⟨B, _, _, hB0⟩ := riN (by omega) (by omega) (nm_of hl) (by intro x hx; simp only [List.mem_cons, List.not_mem_nil, or_false] at hx; rcases hx with rfl | rfl <;> rfl) (bitsQ1 (vI op zs N A (fun _ => []) 0 0 0) (holds_cons (show 0 ≤ N.getD 1 0 from hN.1) holds_nil) (nameH_of hN) (argH0_of hA))
  have hB : RI 12 op zs (.tuple #[.int .i64 (B.getD 0 0), .bool (B.getD 1 0 == 1)]) ∧ RI 18 op zs (.tuple #[.int .i64 (B.getD 0 0), .bool (B.getD 1 0 == 1)]) := ⟨hB0 (12, [inst 1], [.i 0, .b 1]) (by simp), hB0 (18, [inst 1], [.i 0, .b 1]) (by simp)⟩
  generalize B.getD 0 0 = b at hB
  generalize B.getD 1 0 = s at hB
  obtain ⟨I, hI⟩ : ∃ I : Nat → List Int, ∀ k : Nat, k < 4 → ImmC (zs.getD (11 * k + 10) 0) b s (I k) := ⟨fun k => Classical.choose (immC (zs.getD (11 * k + 10) 0) b s (hr (11 * k + 10))), fun k _ => Classical.choose_spec (immC (zs.getD (11 * k + 10) 0) b s (hr (11 * k + 10)))⟩
  have hC : ∃ Y : List Int, Y.length = 1 ∧ PhiC1 (vI op zs N A I b s 0) Y ∧ RI 11 op zs (.int .i64 (Y.getD 0 0)) ∧ RI 19 op zs (.int .i64 (Y.getD 0 0)) := by
    by_cases hb : b = 0
    · obtain ⟨Y, h1, h2, h3⟩ := riN (by omega) (by omega) (nm_of hl) (by intro x hx; simp only [List.mem_cons, List.not_mem_nil, or_false] at hx; rcases hx with rfl | rfl <;> rfl) (checkQ1z (vI op zs N A I b s 0) op zs (nm_of hl) (nameH_of hN) (argH0_of hA) immZ hb hB)
      exact ⟨Y, h1, h2, h3 (11, [inst 1], [.i 0]) (by simp), h3 (19, [inst 1], [.i 0]) (by simp)⟩
    · obtain ⟨Y, h1, h2, h3⟩ := riN (by omega) (by omega) (nm_of hl) (by intro x hx; simp only [List.mem_cons, List.not_mem_nil, or_false] at hx; rcases hx with rfl | rfl <;> rfl) (checkQ1 (vI op zs N A I b s 0) (holds_cons (show b ≠ 0 from hb) holds_nil) op zs (nm_of hl) (nameH_of hN) (argH0_of hA) (immH0_of hI) hB)
      exact ⟨Y, h1, h2, h3 (11, [inst 1], [.i 0]) (by simp), h3 (19, [inst 1], [.i 0]) (by simp)⟩
  obtain ⟨Y, _, hphi, hC⟩ := hC
  refine ⟨b, s, Y.getD 0 0, hB, hC, ?_⟩
  by_cases he : Y.getD 0 0 = 0
  · refine .inr (.inr ⟨he, by omega, by omega, ?_⟩)
    have hphi := hphi he
    obtain ⟨p0, q0⟩ := hphi
    have p0 : (A 0).getD 11 0 = 0 := p0
    have q0 : zs.getD 0 0 = 3 → (I 0).getD 0 0 = 0 := q0
    by_cases g0 : zs.getD 0 0 = 3
    · obtain ⟨fm, Ys, w1, w2, w3, w4⟩ := canQ1_1 (vI op zs N A I b s (Y.getD 0 0)) (holds_cons (show Y.getD 0 0 = 0 from he) (holds_cons (show zs.getD 0 0 = 3 from g0) holds_nil)) op zs (nm_of hl) hC hB (canH0i_of hA hI p0 g0 (q0 g0))
      exact ⟨fm, _, w2, canN (by omega) (by omega) (nm_of hl) w1 w3 w4⟩
    · obtain ⟨fm, Ys, w1, w2, w3, w4⟩ := canQ1_0 (vI op zs N A I b s (Y.getD 0 0)) (holds_cons (show Y.getD 0 0 = 0 from he) (holds_cons (show zs.getD 0 0 ≠ 3 from g0) holds_nil)) op zs (nm_of hl) hC hB (canH0_of hA p0)
      exact ⟨fm, _, w2, canN (by omega) (by omega) (nm_of hl) w1 w3 w4⟩
  · exact .inl ⟨he, errN (by omega) (by omega) (nm_of hl) (canEQ1 (vI op zs N A I b s (Y.getD 0 0)) (holds_cons (show Y.getD 0 0 ≠ 0 from he) holds_nil) op zs (nm_of hl) hC)⟩

theorem con2 (op : Int) (zs : List Int) (hl : zs.length = 11 * 2) (hr : ∀ k : Nat, In64 (zs.getD k 0)) : Con op zs 2 := by
  obtain ⟨N, hN⟩ := nameC op
  obtain ⟨A, hA⟩ : ∃ A : Nat → List Int, ∀ k : Nat, ArgC (fun i => zs.getD (11 * k + i) 0) (A k) := ⟨fun k => Classical.choose (argC (fun i => zs.getD (11 * k + i) 0)), fun k => Classical.choose_spec (argC (fun i => zs.getD (11 * k + i) 0))⟩
  obtain ⟨B, _, _, hB0⟩ := riN (by omega) (by omega) (nm_of hl) (by intro x hx; simp only [List.mem_cons, List.not_mem_nil, or_false] at hx; rcases hx with rfl | rfl <;> rfl) (bitsQ2 (vI op zs N A (fun _ => []) 0 0 0) (holds_cons (show 0 ≤ N.getD 1 0 from hN.1) holds_nil) (nameH_of hN) (argH0_of hA))
  have hB : RI 12 op zs (.tuple #[.int .i64 (B.getD 0 0), .bool (B.getD 1 0 == 1)]) ∧ RI 18 op zs (.tuple #[.int .i64 (B.getD 0 0), .bool (B.getD 1 0 == 1)]) := ⟨hB0 (12, [inst 2], [.i 0, .b 1]) (by simp), hB0 (18, [inst 2], [.i 0, .b 1]) (by simp)⟩
  generalize B.getD 0 0 = b at hB
  generalize B.getD 1 0 = s at hB
  obtain ⟨I, hI⟩ : ∃ I : Nat → List Int, ∀ k : Nat, k < 4 → ImmC (zs.getD (11 * k + 10) 0) b s (I k) := ⟨fun k => Classical.choose (immC (zs.getD (11 * k + 10) 0) b s (hr (11 * k + 10))), fun k _ => Classical.choose_spec (immC (zs.getD (11 * k + 10) 0) b s (hr (11 * k + 10)))⟩
  have hC : ∃ Y : List Int, Y.length = 1 ∧ PhiC2 (vI op zs N A I b s 0) Y ∧ RI 11 op zs (.int .i64 (Y.getD 0 0)) ∧ RI 19 op zs (.int .i64 (Y.getD 0 0)) := by
    by_cases hb : b = 0
    · obtain ⟨Y, h1, h2, h3⟩ := riN (by omega) (by omega) (nm_of hl) (by intro x hx; simp only [List.mem_cons, List.not_mem_nil, or_false] at hx; rcases hx with rfl | rfl <;> rfl) (checkQ2z (vI op zs N A I b s 0) op zs (nm_of hl) (nameH_of hN) (argH0_of hA) (argH1_of hA) immZ hb hB)
      exact ⟨Y, h1, h2, h3 (11, [inst 2], [.i 0]) (by simp), h3 (19, [inst 2], [.i 0]) (by simp)⟩
    · obtain ⟨Y, h1, h2, h3⟩ := riN (by omega) (by omega) (nm_of hl) (by intro x hx; simp only [List.mem_cons, List.not_mem_nil, or_false] at hx; rcases hx with rfl | rfl <;> rfl) (checkQ2 (vI op zs N A I b s 0) (holds_cons (show b ≠ 0 from hb) holds_nil) op zs (nm_of hl) (nameH_of hN) (argH0_of hA) (argH1_of hA) (immH0_of hI) (immH1_of hI) hB)
      exact ⟨Y, h1, h2, h3 (11, [inst 2], [.i 0]) (by simp), h3 (19, [inst 2], [.i 0]) (by simp)⟩
  obtain ⟨Y, _, hphi, hC⟩ := hC
  refine ⟨b, s, Y.getD 0 0, hB, hC, ?_⟩
  by_cases he : Y.getD 0 0 = 0
  · refine .inr (.inr ⟨he, by omega, by omega, ?_⟩)
    have hphi := hphi he
    obtain ⟨⟨p0, q0⟩, ⟨p1, q1⟩⟩ := hphi
    have p0 : (A 0).getD 11 0 = 0 := p0
    have q0 : zs.getD 0 0 = 3 → (I 0).getD 0 0 = 0 := q0
    have p1 : (A 1).getD 11 0 = 0 := p1
    have q1 : zs.getD 11 0 = 3 → (I 1).getD 0 0 = 0 := q1
    by_cases g0 : zs.getD 0 0 = 3
    · by_cases g1 : zs.getD 11 0 = 3
      · obtain ⟨fm, Ys, w1, w2, w3, w4⟩ := canQ2_3 (vI op zs N A I b s (Y.getD 0 0)) (holds_cons (show Y.getD 0 0 = 0 from he) (holds_cons (show zs.getD 0 0 = 3 from g0) (holds_cons (show zs.getD 11 0 = 3 from g1) holds_nil))) op zs (nm_of hl) hC hB (canH0i_of hA hI p0 g0 (q0 g0)) (canH1i_of hA hI p1 g1 (q1 g1))
        exact ⟨fm, _, w2, canN (by omega) (by omega) (nm_of hl) w1 w3 w4⟩
      · obtain ⟨fm, Ys, w1, w2, w3, w4⟩ := canQ2_1 (vI op zs N A I b s (Y.getD 0 0)) (holds_cons (show Y.getD 0 0 = 0 from he) (holds_cons (show zs.getD 0 0 = 3 from g0) (holds_cons (show zs.getD 11 0 ≠ 3 from g1) holds_nil))) op zs (nm_of hl) hC hB (canH0i_of hA hI p0 g0 (q0 g0)) (canH1_of hA p1)
        exact ⟨fm, _, w2, canN (by omega) (by omega) (nm_of hl) w1 w3 w4⟩
    · by_cases g1 : zs.getD 11 0 = 3
      · obtain ⟨fm, Ys, w1, w2, w3, w4⟩ := canQ2_2 (vI op zs N A I b s (Y.getD 0 0)) (holds_cons (show Y.getD 0 0 = 0 from he) (holds_cons (show zs.getD 0 0 ≠ 3 from g0) (holds_cons (show zs.getD 11 0 = 3 from g1) holds_nil))) op zs (nm_of hl) hC hB (canH0_of hA p0) (canH1i_of hA hI p1 g1 (q1 g1))
        exact ⟨fm, _, w2, canN (by omega) (by omega) (nm_of hl) w1 w3 w4⟩
      · by_cases hlt : (A 1).getD 2 0 < (A 0).getD 2 0
        · obtain ⟨fm, Ys, w1, w2, w3, w4⟩ := canQ2_0a (vI op zs N A I b s (Y.getD 0 0)) (holds_cons (show Y.getD 0 0 = 0 from he) (holds_cons ((atF (val := (vI op zs N A I b s (Y.getD 0 0))) (x := .a 102) (y := .a 62) rfl rfl).1 hlt).1 (holds_cons ((atF (val := (vI op zs N A I b s (Y.getD 0 0))) (x := .a 102) (y := .a 62) rfl rfl).1 hlt).2 (holds_cons (show zs.getD 0 0 ≠ 3 from g0) (holds_cons (show zs.getD 11 0 ≠ 3 from g1) holds_nil))))) op zs (nm_of hl) hC hB (canH0_of hA p0) (canH1_of hA p1)
          exact ⟨fm, _, w2, canN (by omega) (by omega) (nm_of hl) w1 w3 w4⟩
        · obtain ⟨fm, Ys, w1, w2, w3, w4⟩ := canQ2_0b (vI op zs N A I b s (Y.getD 0 0)) (holds_cons (show Y.getD 0 0 = 0 from he) (holds_cons ((atF (val := (vI op zs N A I b s (Y.getD 0 0))) (x := .a 102) (y := .a 62) rfl rfl).2 hlt).1 (holds_cons ((atF (val := (vI op zs N A I b s (Y.getD 0 0))) (x := .a 102) (y := .a 62) rfl rfl).2 hlt).2 (holds_cons (show zs.getD 0 0 ≠ 3 from g0) (holds_cons (show zs.getD 11 0 ≠ 3 from g1) holds_nil))))) op zs (nm_of hl) hC hB (canH0_of hA p0) (canH1_of hA p1)
          exact ⟨fm, _, w2, canN (by omega) (by omega) (nm_of hl) w1 w3 w4⟩
  · exact .inl ⟨he, errN (by omega) (by omega) (nm_of hl) (canEQ2 (vI op zs N A I b s (Y.getD 0 0)) (holds_cons (show Y.getD 0 0 ≠ 0 from he) holds_nil) op zs (nm_of hl) hC)⟩

theorem con3 (op : Int) (zs : List Int) (hl : zs.length = 11 * 3) (hr : ∀ k : Nat, In64 (zs.getD k 0)) : Con op zs 3 := by
  obtain ⟨N, hN⟩ := nameC op
  obtain ⟨A, hA⟩ : ∃ A : Nat → List Int, ∀ k : Nat, ArgC (fun i => zs.getD (11 * k + i) 0) (A k) := ⟨fun k => Classical.choose (argC (fun i => zs.getD (11 * k + i) 0)), fun k => Classical.choose_spec (argC (fun i => zs.getD (11 * k + i) 0))⟩
  obtain ⟨B, _, _, hB0⟩ := riN (by omega) (by omega) (nm_of hl) (by intro x hx; simp only [List.mem_cons, List.not_mem_nil, or_false] at hx; rcases hx with rfl | rfl <;> rfl) (bitsQ3 (vI op zs N A (fun _ => []) 0 0 0) (holds_cons (show 0 ≤ N.getD 1 0 from hN.1) holds_nil) (nameH_of hN) (argH0_of hA))
  have hB : RI 12 op zs (.tuple #[.int .i64 (B.getD 0 0), .bool (B.getD 1 0 == 1)]) ∧ RI 18 op zs (.tuple #[.int .i64 (B.getD 0 0), .bool (B.getD 1 0 == 1)]) := ⟨hB0 (12, [inst 3], [.i 0, .b 1]) (by simp), hB0 (18, [inst 3], [.i 0, .b 1]) (by simp)⟩
  generalize B.getD 0 0 = b at hB
  generalize B.getD 1 0 = s at hB
  obtain ⟨I, hI⟩ : ∃ I : Nat → List Int, ∀ k : Nat, k < 4 → ImmC (zs.getD (11 * k + 10) 0) b s (I k) := ⟨fun k => Classical.choose (immC (zs.getD (11 * k + 10) 0) b s (hr (11 * k + 10))), fun k _ => Classical.choose_spec (immC (zs.getD (11 * k + 10) 0) b s (hr (11 * k + 10)))⟩
  have hC : ∃ Y : List Int, Y.length = 1 ∧ PhiC3 (vI op zs N A I b s 0) Y ∧ RI 11 op zs (.int .i64 (Y.getD 0 0)) ∧ RI 19 op zs (.int .i64 (Y.getD 0 0)) := by
    by_cases hb : b = 0
    · obtain ⟨Y, h1, h2, h3⟩ := riN (by omega) (by omega) (nm_of hl) (by intro x hx; simp only [List.mem_cons, List.not_mem_nil, or_false] at hx; rcases hx with rfl | rfl <;> rfl) (checkQ3z (vI op zs N A I b s 0) op zs (nm_of hl) (nameH_of hN) (argH0_of hA) (argH1_of hA) (argH2_of hA) immZ hb hB)
      exact ⟨Y, h1, h2, h3 (11, [inst 3], [.i 0]) (by simp), h3 (19, [inst 3], [.i 0]) (by simp)⟩
    · obtain ⟨Y, h1, h2, h3⟩ := riN (by omega) (by omega) (nm_of hl) (by intro x hx; simp only [List.mem_cons, List.not_mem_nil, or_false] at hx; rcases hx with rfl | rfl <;> rfl) (checkQ3 (vI op zs N A I b s 0) (holds_cons (show b ≠ 0 from hb) holds_nil) op zs (nm_of hl) (nameH_of hN) (argH0_of hA) (argH1_of hA) (argH2_of hA) (immH0_of hI) (immH1_of hI) (immH2_of hI) hB)
      exact ⟨Y, h1, h2, h3 (11, [inst 3], [.i 0]) (by simp), h3 (19, [inst 3], [.i 0]) (by simp)⟩
  obtain ⟨Y, _, hphi, hC⟩ := hC
  refine ⟨b, s, Y.getD 0 0, hB, hC, ?_⟩
  by_cases he : Y.getD 0 0 = 0
  · refine .inr (.inr ⟨he, by omega, by omega, ?_⟩)
    have hphi := hphi he
    obtain ⟨⟨p0, q0⟩, ⟨p1, q1⟩, ⟨p2, q2⟩⟩ := hphi
    have p0 : (A 0).getD 11 0 = 0 := p0
    have q0 : zs.getD 0 0 = 3 → (I 0).getD 0 0 = 0 := q0
    have p1 : (A 1).getD 11 0 = 0 := p1
    have q1 : zs.getD 11 0 = 3 → (I 1).getD 0 0 = 0 := q1
    have p2 : (A 2).getD 11 0 = 0 := p2
    have q2 : zs.getD 22 0 = 3 → (I 2).getD 0 0 = 0 := q2
    by_cases g0 : zs.getD 0 0 = 3
    · by_cases g1 : zs.getD 11 0 = 3
      · by_cases g2 : zs.getD 22 0 = 3
        · obtain ⟨fm, Ys, w1, w2, w3, w4⟩ := canQ3_7 (vI op zs N A I b s (Y.getD 0 0)) (holds_cons (show Y.getD 0 0 = 0 from he) (holds_cons (show zs.getD 0 0 = 3 from g0) (holds_cons (show zs.getD 11 0 = 3 from g1) (holds_cons (show zs.getD 22 0 = 3 from g2) holds_nil)))) op zs (nm_of hl) hC hB (canH0i_of hA hI p0 g0 (q0 g0)) (canH1i_of hA hI p1 g1 (q1 g1)) (canH2i_of hA hI p2 g2 (q2 g2))
          exact ⟨fm, _, w2, canN (by omega) (by omega) (nm_of hl) w1 w3 w4⟩
        · obtain ⟨fm, Ys, w1, w2, w3, w4⟩ := canQ3_3 (vI op zs N A I b s (Y.getD 0 0)) (holds_cons (show Y.getD 0 0 = 0 from he) (holds_cons (show zs.getD 0 0 = 3 from g0) (holds_cons (show zs.getD 11 0 = 3 from g1) (holds_cons (show zs.getD 22 0 ≠ 3 from g2) holds_nil)))) op zs (nm_of hl) hC hB (canH0i_of hA hI p0 g0 (q0 g0)) (canH1i_of hA hI p1 g1 (q1 g1)) (canH2_of hA p2)
          exact ⟨fm, _, w2, canN (by omega) (by omega) (nm_of hl) w1 w3 w4⟩
      · by_cases g2 : zs.getD 22 0 = 3
        · obtain ⟨fm, Ys, w1, w2, w3, w4⟩ := canQ3_5 (vI op zs N A I b s (Y.getD 0 0)) (holds_cons (show Y.getD 0 0 = 0 from he) (holds_cons (show zs.getD 0 0 = 3 from g0) (holds_cons (show zs.getD 11 0 ≠ 3 from g1) (holds_cons (show zs.getD 22 0 = 3 from g2) holds_nil)))) op zs (nm_of hl) hC hB (canH0i_of hA hI p0 g0 (q0 g0)) (canH1_of hA p1) (canH2i_of hA hI p2 g2 (q2 g2))
          exact ⟨fm, _, w2, canN (by omega) (by omega) (nm_of hl) w1 w3 w4⟩
        · obtain ⟨fm, Ys, w1, w2, w3, w4⟩ := canQ3_1 (vI op zs N A I b s (Y.getD 0 0)) (holds_cons (show Y.getD 0 0 = 0 from he) (holds_cons (show zs.getD 0 0 = 3 from g0) (holds_cons (show zs.getD 11 0 ≠ 3 from g1) (holds_cons (show zs.getD 22 0 ≠ 3 from g2) holds_nil)))) op zs (nm_of hl) hC hB (canH0i_of hA hI p0 g0 (q0 g0)) (canH1_of hA p1) (canH2_of hA p2)
          exact ⟨fm, _, w2, canN (by omega) (by omega) (nm_of hl) w1 w3 w4⟩
    · by_cases g1 : zs.getD 11 0 = 3
      · by_cases g2 : zs.getD 22 0 = 3
        · obtain ⟨fm, Ys, w1, w2, w3, w4⟩ := canQ3_6 (vI op zs N A I b s (Y.getD 0 0)) (holds_cons (show Y.getD 0 0 = 0 from he) (holds_cons (show zs.getD 0 0 ≠ 3 from g0) (holds_cons (show zs.getD 11 0 = 3 from g1) (holds_cons (show zs.getD 22 0 = 3 from g2) holds_nil)))) op zs (nm_of hl) hC hB (canH0_of hA p0) (canH1i_of hA hI p1 g1 (q1 g1)) (canH2i_of hA hI p2 g2 (q2 g2))
          exact ⟨fm, _, w2, canN (by omega) (by omega) (nm_of hl) w1 w3 w4⟩
        · obtain ⟨fm, Ys, w1, w2, w3, w4⟩ := canQ3_2 (vI op zs N A I b s (Y.getD 0 0)) (holds_cons (show Y.getD 0 0 = 0 from he) (holds_cons (show zs.getD 0 0 ≠ 3 from g0) (holds_cons (show zs.getD 11 0 = 3 from g1) (holds_cons (show zs.getD 22 0 ≠ 3 from g2) holds_nil)))) op zs (nm_of hl) hC hB (canH0_of hA p0) (canH1i_of hA hI p1 g1 (q1 g1)) (canH2_of hA p2)
          exact ⟨fm, _, w2, canN (by omega) (by omega) (nm_of hl) w1 w3 w4⟩
      · by_cases g2 : zs.getD 22 0 = 3
        · obtain ⟨fm, Ys, w1, w2, w3, w4⟩ := canQ3_4 (vI op zs N A I b s (Y.getD 0 0)) (holds_cons (show Y.getD 0 0 = 0 from he) (holds_cons (show zs.getD 0 0 ≠ 3 from g0) (holds_cons (show zs.getD 11 0 ≠ 3 from g1) (holds_cons (show zs.getD 22 0 = 3 from g2) holds_nil)))) op zs (nm_of hl) hC hB (canH0_of hA p0) (canH1_of hA p1) (canH2i_of hA hI p2 g2 (q2 g2))
          exact ⟨fm, _, w2, canN (by omega) (by omega) (nm_of hl) w1 w3 w4⟩
        · obtain ⟨fm, Ys, w1, w2, w3, w4⟩ := canQ3_0 (vI op zs N A I b s (Y.getD 0 0)) (holds_cons (show Y.getD 0 0 = 0 from he) (holds_cons (show zs.getD 0 0 ≠ 3 from g0) (holds_cons (show zs.getD 11 0 ≠ 3 from g1) (holds_cons (show zs.getD 22 0 ≠ 3 from g2) holds_nil)))) op zs (nm_of hl) hC hB (canH0_of hA p0) (canH1_of hA p1) (canH2_of hA p2)
          exact ⟨fm, _, w2, canN (by omega) (by omega) (nm_of hl) w1 w3 w4⟩
  · exact .inl ⟨he, errN (by omega) (by omega) (nm_of hl) (canEQ3 (vI op zs N A I b s (Y.getD 0 0)) (holds_cons (show Y.getD 0 0 ≠ 0 from he) holds_nil) op zs (nm_of hl) hC)⟩

theorem con4 (op : Int) (zs : List Int) (hl : zs.length = 11 * 4) (hr : ∀ k : Nat, In64 (zs.getD k 0)) : Con op zs 4 := by
  obtain ⟨N, hN⟩ := nameC op
  obtain ⟨A, hA⟩ : ∃ A : Nat → List Int, ∀ k : Nat, ArgC (fun i => zs.getD (11 * k + i) 0) (A k) := ⟨fun k => Classical.choose (argC (fun i => zs.getD (11 * k + i) 0)), fun k => Classical.choose_spec (argC (fun i => zs.getD (11 * k + i) 0))⟩
  obtain ⟨B, _, _, hB0⟩ := riN (by omega) (by omega) (nm_of hl) (by intro x hx; simp only [List.mem_cons, List.not_mem_nil, or_false] at hx; rcases hx with rfl | rfl <;> rfl) (bitsQ4 (vI op zs N A (fun _ => []) 0 0 0) (holds_cons (show 0 ≤ N.getD 1 0 from hN.1) holds_nil) (nameH_of hN) (argH0_of hA))
  have hB : RI 12 op zs (.tuple #[.int .i64 (B.getD 0 0), .bool (B.getD 1 0 == 1)]) ∧ RI 18 op zs (.tuple #[.int .i64 (B.getD 0 0), .bool (B.getD 1 0 == 1)]) := ⟨hB0 (12, [inst 4], [.i 0, .b 1]) (by simp), hB0 (18, [inst 4], [.i 0, .b 1]) (by simp)⟩
  generalize B.getD 0 0 = b at hB
  generalize B.getD 1 0 = s at hB
  obtain ⟨I, hI⟩ : ∃ I : Nat → List Int, ∀ k : Nat, k < 4 → ImmC (zs.getD (11 * k + 10) 0) b s (I k) := ⟨fun k => Classical.choose (immC (zs.getD (11 * k + 10) 0) b s (hr (11 * k + 10))), fun k _ => Classical.choose_spec (immC (zs.getD (11 * k + 10) 0) b s (hr (11 * k + 10)))⟩
  have hC : ∃ Y : List Int, Y.length = 1 ∧ PhiC4 (vI op zs N A I b s 0) Y ∧ RI 11 op zs (.int .i64 (Y.getD 0 0)) ∧ RI 19 op zs (.int .i64 (Y.getD 0 0)) := by
    by_cases hb : b = 0
    · obtain ⟨Y, h1, h2, h3⟩ := riN (by omega) (by omega) (nm_of hl) (by intro x hx; simp only [List.mem_cons, List.not_mem_nil, or_false] at hx; rcases hx with rfl | rfl <;> rfl) (checkQ4z (vI op zs N A I b s 0) op zs (nm_of hl) (nameH_of hN) (argH0_of hA) (argH1_of hA) (argH2_of hA) (argH3_of hA) immZ hb hB)
      exact ⟨Y, h1, h2, h3 (11, [inst 4], [.i 0]) (by simp), h3 (19, [inst 4], [.i 0]) (by simp)⟩
    · obtain ⟨Y, h1, h2, h3⟩ := riN (by omega) (by omega) (nm_of hl) (by intro x hx; simp only [List.mem_cons, List.not_mem_nil, or_false] at hx; rcases hx with rfl | rfl <;> rfl) (checkQ4 (vI op zs N A I b s 0) (holds_cons (show b ≠ 0 from hb) holds_nil) op zs (nm_of hl) (nameH_of hN) (argH0_of hA) (argH1_of hA) (argH2_of hA) (argH3_of hA) (immH0_of hI) (immH1_of hI) (immH2_of hI) (immH3_of hI) hB)
      exact ⟨Y, h1, h2, h3 (11, [inst 4], [.i 0]) (by simp), h3 (19, [inst 4], [.i 0]) (by simp)⟩
  obtain ⟨Y, _, hphi, hC⟩ := hC
  refine ⟨b, s, Y.getD 0 0, hB, hC, ?_⟩
  by_cases he : Y.getD 0 0 = 0
  · refine .inr (.inr ⟨he, by omega, by omega, ?_⟩)
    have hphi := hphi he
    obtain ⟨⟨p0, q0⟩, ⟨p1, q1⟩, ⟨p2, q2⟩, ⟨p3, q3⟩⟩ := hphi
    have p0 : (A 0).getD 11 0 = 0 := p0
    have q0 : zs.getD 0 0 = 3 → (I 0).getD 0 0 = 0 := q0
    have p1 : (A 1).getD 11 0 = 0 := p1
    have q1 : zs.getD 11 0 = 3 → (I 1).getD 0 0 = 0 := q1
    have p2 : (A 2).getD 11 0 = 0 := p2
    have q2 : zs.getD 22 0 = 3 → (I 2).getD 0 0 = 0 := q2
    have p3 : (A 3).getD 11 0 = 0 := p3
    have q3 : zs.getD 33 0 = 3 → (I 3).getD 0 0 = 0 := q3
    by_cases g0 : zs.getD 0 0 = 3
    · by_cases g1 : zs.getD 11 0 = 3
      · by_cases g2 : zs.getD 22 0 = 3
        · by_cases g3 : zs.getD 33 0 = 3
          · obtain ⟨fm, Ys, w1, w2, w3, w4⟩ := canQ4_15 (vI op zs N A I b s (Y.getD 0 0)) (holds_cons (show Y.getD 0 0 = 0 from he) (holds_cons (show zs.getD 0 0 = 3 from g0) (holds_cons (show zs.getD 11 0 = 3 from g1) (holds_cons (show zs.getD 22 0 = 3 from g2) (holds_cons (show zs.getD 33 0 = 3 from g3) holds_nil))))) op zs (nm_of hl) hC hB (canH0i_of hA hI p0 g0 (q0 g0)) (canH1i_of hA hI p1 g1 (q1 g1)) (canH2i_of hA hI p2 g2 (q2 g2)) (canH3i_of hA hI p3 g3 (q3 g3))
            exact ⟨fm, _, w2, canN (by omega) (by omega) (nm_of hl) w1 w3 w4⟩
          · obtain ⟨fm, Ys, w1, w2, w3, w4⟩ := canQ4_7 (vI op zs N A I b s (Y.getD 0 0)) (holds_cons (show Y.getD 0 0 = 0 from he) (holds_cons (show zs.getD 0 0 = 3 from g0) (holds_cons (show zs.getD 11 0 = 3 from g1) (holds_cons (show zs.getD 22 0 = 3 from g2) (holds_cons (show zs.getD 33 0 ≠ 3 from g3) holds_nil))))) op zs (nm_of hl) hC hB (canH0i_of hA hI p0 g0 (q0 g0)) (canH1i_of hA hI p1 g1 (q1 g1)) (canH2i_of hA hI p2 g2 (q2 g2)) (canH3_of hA p3)
            exact ⟨fm, _, w2, canN (by omega) (by omega) (nm_of hl) w1 w3 w4⟩
        · by_cases g3 : zs.getD 33 0 = 3
          · obtain ⟨fm, Ys, w1, w2, w3, w4⟩ := canQ4_11 (vI op zs N A I b s (Y.getD 0 0)) (holds_cons (show Y.getD 0 0 = 0 from he) (holds_cons (show zs.getD 0 0 = 3 from g0) (holds_cons (show zs.getD 11 0 = 3 from g1) (holds_cons (show zs.getD 22 0 ≠ 3 from g2) (holds_cons (show zs.getD 33 0 = 3 from g3) holds_nil))))) op zs (nm_of hl) hC hB (canH0i_of hA hI p0 g0 (q0 g0)) (canH1i_of hA hI p1 g1 (q1 g1)) (canH2_of hA p2) (canH3i_of hA hI p3 g3 (q3 g3))
            exact ⟨fm, _, w2, canN (by omega) (by omega) (nm_of hl) w1 w3 w4⟩
          · obtain ⟨fm, Ys, w1, w2, w3, w4⟩ := canQ4_3 (vI op zs N A I b s (Y.getD 0 0)) (holds_cons (show Y.getD 0 0 = 0 from he) (holds_cons (show zs.getD 0 0 = 3 from g0) (holds_cons (show zs.getD 11 0 = 3 from g1) (holds_cons (show zs.getD 22 0 ≠ 3 from g2) (holds_cons (show zs.getD 33 0 ≠ 3 from g3) holds_nil))))) op zs (nm_of hl) hC hB (canH0i_of hA hI p0 g0 (q0 g0)) (canH1i_of hA hI p1 g1 (q1 g1)) (canH2_of hA p2) (canH3_of hA p3)
            exact ⟨fm, _, w2, canN (by omega) (by omega) (nm_of hl) w1 w3 w4⟩
      · by_cases g2 : zs.getD 22 0 = 3
        · by_cases g3 : zs.getD 33 0 = 3
          · obtain ⟨fm, Ys, w1, w2, w3, w4⟩ := canQ4_13 (vI op zs N A I b s (Y.getD 0 0)) (holds_cons (show Y.getD 0 0 = 0 from he) (holds_cons (show zs.getD 0 0 = 3 from g0) (holds_cons (show zs.getD 11 0 ≠ 3 from g1) (holds_cons (show zs.getD 22 0 = 3 from g2) (holds_cons (show zs.getD 33 0 = 3 from g3) holds_nil))))) op zs (nm_of hl) hC hB (canH0i_of hA hI p0 g0 (q0 g0)) (canH1_of hA p1) (canH2i_of hA hI p2 g2 (q2 g2)) (canH3i_of hA hI p3 g3 (q3 g3))
            exact ⟨fm, _, w2, canN (by omega) (by omega) (nm_of hl) w1 w3 w4⟩
          · obtain ⟨fm, Ys, w1, w2, w3, w4⟩ := canQ4_5 (vI op zs N A I b s (Y.getD 0 0)) (holds_cons (show Y.getD 0 0 = 0 from he) (holds_cons (show zs.getD 0 0 = 3 from g0) (holds_cons (show zs.getD 11 0 ≠ 3 from g1) (holds_cons (show zs.getD 22 0 = 3 from g2) (holds_cons (show zs.getD 33 0 ≠ 3 from g3) holds_nil))))) op zs (nm_of hl) hC hB (canH0i_of hA hI p0 g0 (q0 g0)) (canH1_of hA p1) (canH2i_of hA hI p2 g2 (q2 g2)) (canH3_of hA p3)
            exact ⟨fm, _, w2, canN (by omega) (by omega) (nm_of hl) w1 w3 w4⟩
        · by_cases g3 : zs.getD 33 0 = 3
          · obtain ⟨fm, Ys, w1, w2, w3, w4⟩ := canQ4_9 (vI op zs N A I b s (Y.getD 0 0)) (holds_cons (show Y.getD 0 0 = 0 from he) (holds_cons (show zs.getD 0 0 = 3 from g0) (holds_cons (show zs.getD 11 0 ≠ 3 from g1) (holds_cons (show zs.getD 22 0 ≠ 3 from g2) (holds_cons (show zs.getD 33 0 = 3 from g3) holds_nil))))) op zs (nm_of hl) hC hB (canH0i_of hA hI p0 g0 (q0 g0)) (canH1_of hA p1) (canH2_of hA p2) (canH3i_of hA hI p3 g3 (q3 g3))
            exact ⟨fm, _, w2, canN (by omega) (by omega) (nm_of hl) w1 w3 w4⟩
          · obtain ⟨fm, Ys, w1, w2, w3, w4⟩ := canQ4_1 (vI op zs N A I b s (Y.getD 0 0)) (holds_cons (show Y.getD 0 0 = 0 from he) (holds_cons (show zs.getD 0 0 = 3 from g0) (holds_cons (show zs.getD 11 0 ≠ 3 from g1) (holds_cons (show zs.getD 22 0 ≠ 3 from g2) (holds_cons (show zs.getD 33 0 ≠ 3 from g3) holds_nil))))) op zs (nm_of hl) hC hB (canH0i_of hA hI p0 g0 (q0 g0)) (canH1_of hA p1) (canH2_of hA p2) (canH3_of hA p3)
            exact ⟨fm, _, w2, canN (by omega) (by omega) (nm_of hl) w1 w3 w4⟩
    · by_cases g1 : zs.getD 11 0 = 3
      · by_cases g2 : zs.getD 22 0 = 3
        · by_cases g3 : zs.getD 33 0 = 3
          · obtain ⟨fm, Ys, w1, w2, w3, w4⟩ := canQ4_14 (vI op zs N A I b s (Y.getD 0 0)) (holds_cons (show Y.getD 0 0 = 0 from he) (holds_cons (show zs.getD 0 0 ≠ 3 from g0) (holds_cons (show zs.getD 11 0 = 3 from g1) (holds_cons (show zs.getD 22 0 = 3 from g2) (holds_cons (show zs.getD 33 0 = 3 from g3) holds_nil))))) op zs (nm_of hl) hC hB (canH0_of hA p0) (canH1i_of hA hI p1 g1 (q1 g1)) (canH2i_of hA hI p2 g2 (q2 g2)) (canH3i_of hA hI p3 g3 (q3 g3))
            exact ⟨fm, _, w2, canN (by omega) (by omega) (nm_of hl) w1 w3 w4⟩
          · obtain ⟨fm, Ys, w1, w2, w3, w4⟩ := canQ4_6 (vI op zs N A I b s (Y.getD 0 0)) (holds_cons (show Y.getD 0 0 = 0 from he) (holds_cons (show zs.getD 0 0 ≠ 3 from g0) (holds_cons (show zs.getD 11 0 = 3 from g1) (holds_cons (show zs.getD 22 0 = 3 from g2) (holds_cons (show zs.getD 33 0 ≠ 3 from g3) holds_nil))))) op zs (nm_of hl) hC hB (canH0_of hA p0) (canH1i_of hA hI p1 g1 (q1 g1)) (canH2i_of hA hI p2 g2 (q2 g2)) (canH3_of hA p3)
            exact ⟨fm, _, w2, canN (by omega) (by omega) (nm_of hl) w1 w3 w4⟩
        · by_cases g3 : zs.getD 33 0 = 3
          · obtain ⟨fm, Ys, w1, w2, w3, w4⟩ := canQ4_10 (vI op zs N A I b s (Y.getD 0 0)) (holds_cons (show Y.getD 0 0 = 0 from he) (holds_cons (show zs.getD 0 0 ≠ 3 from g0) (holds_cons (show zs.getD 11 0 = 3 from g1) (holds_cons (show zs.getD 22 0 ≠ 3 from g2) (holds_cons (show zs.getD 33 0 = 3 from g3) holds_nil))))) op zs (nm_of hl) hC hB (canH0_of hA p0) (canH1i_of hA hI p1 g1 (q1 g1)) (canH2_of hA p2) (canH3i_of hA hI p3 g3 (q3 g3))
            exact ⟨fm, _, w2, canN (by omega) (by omega) (nm_of hl) w1 w3 w4⟩
          · obtain ⟨fm, Ys, w1, w2, w3, w4⟩ := canQ4_2 (vI op zs N A I b s (Y.getD 0 0)) (holds_cons (show Y.getD 0 0 = 0 from he) (holds_cons (show zs.getD 0 0 ≠ 3 from g0) (holds_cons (show zs.getD 11 0 = 3 from g1) (holds_cons (show zs.getD 22 0 ≠ 3 from g2) (holds_cons (show zs.getD 33 0 ≠ 3 from g3) holds_nil))))) op zs (nm_of hl) hC hB (canH0_of hA p0) (canH1i_of hA hI p1 g1 (q1 g1)) (canH2_of hA p2) (canH3_of hA p3)
            exact ⟨fm, _, w2, canN (by omega) (by omega) (nm_of hl) w1 w3 w4⟩
      · by_cases g2 : zs.getD 22 0 = 3
        · by_cases g3 : zs.getD 33 0 = 3
          · obtain ⟨fm, Ys, w1, w2, w3, w4⟩ := canQ4_12 (vI op zs N A I b s (Y.getD 0 0)) (holds_cons (show Y.getD 0 0 = 0 from he) (holds_cons (show zs.getD 0 0 ≠ 3 from g0) (holds_cons (show zs.getD 11 0 ≠ 3 from g1) (holds_cons (show zs.getD 22 0 = 3 from g2) (holds_cons (show zs.getD 33 0 = 3 from g3) holds_nil))))) op zs (nm_of hl) hC hB (canH0_of hA p0) (canH1_of hA p1) (canH2i_of hA hI p2 g2 (q2 g2)) (canH3i_of hA hI p3 g3 (q3 g3))
            exact ⟨fm, _, w2, canN (by omega) (by omega) (nm_of hl) w1 w3 w4⟩
          · obtain ⟨fm, Ys, w1, w2, w3, w4⟩ := canQ4_4 (vI op zs N A I b s (Y.getD 0 0)) (holds_cons (show Y.getD 0 0 = 0 from he) (holds_cons (show zs.getD 0 0 ≠ 3 from g0) (holds_cons (show zs.getD 11 0 ≠ 3 from g1) (holds_cons (show zs.getD 22 0 = 3 from g2) (holds_cons (show zs.getD 33 0 ≠ 3 from g3) holds_nil))))) op zs (nm_of hl) hC hB (canH0_of hA p0) (canH1_of hA p1) (canH2i_of hA hI p2 g2 (q2 g2)) (canH3_of hA p3)
            exact ⟨fm, _, w2, canN (by omega) (by omega) (nm_of hl) w1 w3 w4⟩
        · by_cases g3 : zs.getD 33 0 = 3
          · obtain ⟨fm, Ys, w1, w2, w3, w4⟩ := canQ4_8 (vI op zs N A I b s (Y.getD 0 0)) (holds_cons (show Y.getD 0 0 = 0 from he) (holds_cons (show zs.getD 0 0 ≠ 3 from g0) (holds_cons (show zs.getD 11 0 ≠ 3 from g1) (holds_cons (show zs.getD 22 0 ≠ 3 from g2) (holds_cons (show zs.getD 33 0 = 3 from g3) holds_nil))))) op zs (nm_of hl) hC hB (canH0_of hA p0) (canH1_of hA p1) (canH2_of hA p2) (canH3i_of hA hI p3 g3 (q3 g3))
            exact ⟨fm, _, w2, canN (by omega) (by omega) (nm_of hl) w1 w3 w4⟩
          · obtain ⟨fm, Ys, w1, w2, w3, w4⟩ := canQ4_0 (vI op zs N A I b s (Y.getD 0 0)) (holds_cons (show Y.getD 0 0 = 0 from he) (holds_cons (show zs.getD 0 0 ≠ 3 from g0) (holds_cons (show zs.getD 11 0 ≠ 3 from g1) (holds_cons (show zs.getD 22 0 ≠ 3 from g2) (holds_cons (show zs.getD 33 0 ≠ 3 from g3) holds_nil))))) op zs (nm_of hl) hC hB (canH0_of hA p0) (canH1_of hA p1) (canH2_of hA p2) (canH3_of hA p3)
            exact ⟨fm, _, w2, canN (by omega) (by omega) (nm_of hl) w1 w3 w4⟩
  · exact .inl ⟨he, errN (by omega) (by omega) (nm_of hl) (canEQ4 (vI op zs N A I b s (Y.getD 0 0)) (holds_cons (show Y.getD 0 0 ≠ 0 from he) holds_nil) op zs (nm_of hl) hC)⟩

theorem con5 (op : Int) (zs : List Int) (hl : zs.length = 11 * 5) (hr : ∀ k : Nat, In64 (zs.getD k 0)) : Con op zs 5 := by
  obtain ⟨N, hN⟩ := nameC op
  obtain ⟨A, hA⟩ : ∃ A : Nat → List Int, ∀ k : Nat, ArgC (fun i => zs.getD (11 * k + i) 0) (A k) := ⟨fun k => Classical.choose (argC (fun i => zs.getD (11 * k + i) 0)), fun k => Classical.choose_spec (argC (fun i => zs.getD (11 * k + i) 0))⟩
  obtain ⟨B, _, _, hB0⟩ := riN (by omega) (by omega) (nm_of hl) (by intro x hx; simp only [List.mem_cons, List.not_mem_nil, or_false] at hx; rcases hx with rfl | rfl <;> rfl) (bitsQ5 (vI op zs N A (fun _ => []) 0 0 0) (holds_cons (show 0 ≤ N.getD 1 0 from hN.1) holds_nil) (nameH_of hN) (argH0_of hA))
  have hB : RI 12 op zs (.tuple #[.int .i64 (B.getD 0 0), .bool (B.getD 1 0 == 1)]) ∧ RI 18 op zs (.tuple #[.int .i64 (B.getD 0 0), .bool (B.getD 1 0 == 1)]) := ⟨hB0 (12, [inst 5], [.i 0, .b 1]) (by simp), hB0 (18, [inst 5], [.i 0, .b 1]) (by simp)⟩
  generalize B.getD 0 0 = b at hB
  generalize B.getD 1 0 = s at hB
  obtain ⟨I, hI⟩ : ∃ I : Nat → List Int, ∀ k : Nat, k < 4 → ImmC (zs.getD (11 * k + 10) 0) b s (I k) := ⟨fun k => Classical.choose (immC (zs.getD (11 * k + 10) 0) b s (hr (11 * k + 10))), fun k _ => Classical.choose_spec (immC (zs.getD (11 * k + 10) 0) b s (hr (11 * k + 10)))⟩
  have hC : ∃ Y : List Int, Y.length = 1 ∧ PhiC5 (vI op zs N A I b s 0) Y ∧ RI 11 op zs (.int .i64 (Y.getD 0 0)) ∧ RI 19 op zs (.int .i64 (Y.getD 0 0)) := by
    by_cases hb : b = 0
    · obtain ⟨Y, h1, h2, h3⟩ := riN (by omega) (by omega) (nm_of hl) (by intro x hx; simp only [List.mem_cons, List.not_mem_nil, or_false] at hx; rcases hx with rfl | rfl <;> rfl) (checkQ5z (vI op zs N A I b s 0) op zs (nm_of hl) (nameH_of hN) immZ hb hB)
      exact ⟨Y, h1, h2, h3 (11, [inst 5], [.i 0]) (by simp), h3 (19, [inst 5], [.i 0]) (by simp)⟩
    · obtain ⟨Y, h1, h2, h3⟩ := riN (by omega) (by omega) (nm_of hl) (by intro x hx; simp only [List.mem_cons, List.not_mem_nil, or_false] at hx; rcases hx with rfl | rfl <;> rfl) (checkQ5 (vI op zs N A I b s 0) (holds_cons (show b ≠ 0 from hb) holds_nil) op zs (nm_of hl) (nameH_of hN) hB)
      exact ⟨Y, h1, h2, h3 (11, [inst 5], [.i 0]) (by simp), h3 (19, [inst 5], [.i 0]) (by simp)⟩
  obtain ⟨Y, _, hphi, hC⟩ := hC
  refine ⟨b, s, Y.getD 0 0, hB, hC, ?_⟩
  by_cases he : Y.getD 0 0 = 0
  · exact absurd he hphi
  · exact .inl ⟨he, errN (by omega) (by omega) (nm_of hl) (canEQ5 (vI op zs N A I b s (Y.getD 0 0)) (holds_cons (show Y.getD 0 0 ≠ 0 from he) holds_nil) op zs (nm_of hl) hC)⟩

theorem con6 (op : Int) (zs : List Int) (hl : zs.length = 11 * 6) (hr : ∀ k : Nat, In64 (zs.getD k 0)) : Con op zs 6 := by
  obtain ⟨N, hN⟩ := nameC op
  obtain ⟨A, hA⟩ : ∃ A : Nat → List Int, ∀ k : Nat, ArgC (fun i => zs.getD (11 * k + i) 0) (A k) := ⟨fun k => Classical.choose (argC (fun i => zs.getD (11 * k + i) 0)), fun k => Classical.choose_spec (argC (fun i => zs.getD (11 * k + i) 0))⟩
  obtain ⟨B, _, _, hB0⟩ := riN (by omega) (by omega) (nm_of hl) (by intro x hx; simp only [List.mem_cons, List.not_mem_nil, or_false] at hx; rcases hx with rfl | rfl <;> rfl) (bitsQ6 (vI op zs N A (fun _ => []) 0 0 0) (holds_cons (show 0 ≤ N.getD 1 0 from hN.1) holds_nil) (nameH_of hN) (argH0_of hA))
  have hB : RI 12 op zs (.tuple #[.int .i64 (B.getD 0 0), .bool (B.getD 1 0 == 1)]) ∧ RI 18 op zs (.tuple #[.int .i64 (B.getD 0 0), .bool (B.getD 1 0 == 1)]) := ⟨hB0 (12, [inst 6], [.i 0, .b 1]) (by simp), hB0 (18, [inst 6], [.i 0, .b 1]) (by simp)⟩
  generalize B.getD 0 0 = b at hB
  generalize B.getD 1 0 = s at hB
  obtain ⟨I, hI⟩ : ∃ I : Nat → List Int, ∀ k : Nat, k < 4 → ImmC (zs.getD (11 * k + 10) 0) b s (I k) := ⟨fun k => Classical.choose (immC (zs.getD (11 * k + 10) 0) b s (hr (11 * k + 10))), fun k _ => Classical.choose_spec (immC (zs.getD (11 * k + 10) 0) b s (hr (11 * k + 10)))⟩
  have hC : ∃ Y : List Int, Y.length = 1 ∧ PhiC6 (vI op zs N A I b s 0) Y ∧ RI 11 op zs (.int .i64 (Y.getD 0 0)) ∧ RI 19 op zs (.int .i64 (Y.getD 0 0)) := by
    by_cases hb : b = 0
    · obtain ⟨Y, h1, h2, h3⟩ := riN (by omega) (by omega) (nm_of hl) (by intro x hx; simp only [List.mem_cons, List.not_mem_nil, or_false] at hx; rcases hx with rfl | rfl <;> rfl) (checkQ6z (vI op zs N A I b s 0) op zs (nm_of hl) (nameH_of hN) immZ hb hB)
      exact ⟨Y, h1, h2, h3 (11, [inst 6], [.i 0]) (by simp), h3 (19, [inst 6], [.i 0]) (by simp)⟩
    · obtain ⟨Y, h1, h2, h3⟩ := riN (by omega) (by omega) (nm_of hl) (by intro x hx; simp only [List.mem_cons, List.not_mem_nil, or_false] at hx; rcases hx with rfl | rfl <;> rfl) (checkQ6 (vI op zs N A I b s 0) (holds_cons (show b ≠ 0 from hb) holds_nil) op zs (nm_of hl) (nameH_of hN) hB)
      exact ⟨Y, h1, h2, h3 (11, [inst 6], [.i 0]) (by simp), h3 (19, [inst 6], [.i 0]) (by simp)⟩
  obtain ⟨Y, _, hphi, hC⟩ := hC
  refine ⟨b, s, Y.getD 0 0, hB, hC, ?_⟩
  by_cases he : Y.getD 0 0 = 0
  · exact absurd he hphi
  · exact .inl ⟨he, errN (by omega) (by omega) (nm_of hl) (canEQ6 (vI op zs N A I b s (Y.getD 0 0)) (holds_cons (show Y.getD 0 0 ≠ 0 from he) holds_nil) op zs (nm_of hl) hC)⟩

theorem con7 (op : Int) (zs : List Int) (hl : zs.length = 11 * 7) (hr : ∀ k : Nat, In64 (zs.getD k 0)) : Con op zs 7 := by
  obtain ⟨N, hN⟩ := nameC op
  obtain ⟨A, hA⟩ : ∃ A : Nat → List Int, ∀ k : Nat, ArgC (fun i => zs.getD (11 * k + i) 0) (A k) := ⟨fun k => Classical.choose (argC (fun i => zs.getD (11 * k + i) 0)), fun k => Classical.choose_spec (argC (fun i => zs.getD (11 * k + i) 0))⟩
  obtain ⟨B, _, _, hB0⟩ := riN (by omega) (by omega) (nm_of hl) (by intro x hx; simp only [List.mem_cons, List.not_mem_nil, or_false] at hx; rcases hx with rfl | rfl <;> rfl) (bitsQ7 (vI op zs N A (fun _ => []) 0 0 0) (holds_cons (show 0 ≤ N.getD 1 0 from hN.1) holds_nil) (nameH_of hN) (argH0_of hA))
  have hB : RI 12 op zs (.tuple #[.int .i64 (B.getD 0 0), .bool (B.getD 1 0 == 1)]) ∧ RI 18 op zs (.tuple #[.int .i64 (B.getD 0 0), .bool (B.getD 1 0 == 1)]) := ⟨hB0 (12, [inst 7], [.i 0, .b 1]) (by simp), hB0 (18, [inst 7], [.i 0, .b 1]) (by simp)⟩
  generalize B.getD 0 0 = b at hB
  generalize B.getD 1 0 = s at hB
  obtain ⟨I, hI⟩ : ∃ I : Nat → List Int, ∀ k : Nat, k < 4 → ImmC (zs.getD (11 * k + 10) 0) b s (I k) := ⟨fun k => Classical.choose (immC (zs.getD (11 * k + 10) 0) b s (hr (11 * k + 10))), fun k _ => Classical.choose_spec (immC (zs.getD (11 * k + 10) 0) b s (hr (11 * k + 10)))⟩
  have hC : ∃ Y : List Int, Y.length = 1 ∧ PhiC7 (vI op zs N A I b s 0) Y ∧ RI 11 op zs (.int .i64 (Y.getD 0 0)) ∧ RI 19 op zs (.int .i64 (Y.getD 0 0)) := by
    by_cases hb : b = 0
    · obtain ⟨Y, h1, h2, h3⟩ := riN (by omega) (by omega) (nm_of hl) (by intro x hx; simp only [List.mem_cons, List.not_mem_nil, or_false] at hx; rcases hx with rfl | rfl <;> rfl) (checkQ7z (vI op zs N A I b s 0) op zs (nm_of hl) (nameH_of hN) immZ hb hB)
      exact ⟨Y, h1, h2, h3 (11, [inst 7], [.i 0]) (by simp), h3 (19, [inst 7], [.i 0]) (by simp)⟩
    · obtain ⟨Y, h1, h2, h3⟩ := riN (by omega) (by omega) (nm_of hl) (by intro x hx; simp only [List.mem_cons, List.not_mem_nil, or_false] at hx; rcases hx with rfl | rfl <;> rfl) (checkQ7 (vI op zs N A I b s 0) (holds_cons (show b ≠ 0 from hb) holds_nil) op zs (nm_of hl) (nameH_of hN) hB)
      exact ⟨Y, h1, h2, h3 (11, [inst 7], [.i 0]) (by simp), h3 (19, [inst 7], [.i 0]) (by simp)⟩
  obtain ⟨Y, _, hphi, hC⟩ := hC
  refine ⟨b, s, Y.getD 0 0, hB, hC, ?_⟩
  by_cases he : Y.getD 0 0 = 0
  · exact absurd he hphi
  · exact .inl ⟨he, errN (by omega) (by omega) (nm_of hl) (canEQ7 (vI op zs N A I b s (Y.getD 0 0)) (holds_cons (show Y.getD 0 0 ≠ 0 from he) holds_nil) op zs (nm_of hl) hC)⟩

theorem con8 (op : Int) (zs : List Int) (hl : zs.length = 11 * 8) (hr : ∀ k : Nat, In64 (zs.getD k 0)) : Con op zs 8 := by
  obtain ⟨N, hN⟩ := nameC op
  obtain ⟨A, hA⟩ : ∃ A : Nat → List Int, ∀ k : Nat, ArgC (fun i => zs.getD (11 * k + i) 0) (A k) := ⟨fun k => Classical.choose (argC (fun i => zs.getD (11 * k + i) 0)), fun k => Classical.choose_spec (argC (fun i => zs.getD (11 * k + i) 0))⟩
  obtain ⟨B, _, _, hB0⟩ := riN (by omega) (by omega) (nm_of hl) (by intro x hx; simp only [List.mem_cons, List.not_mem_nil, or_false] at hx; rcases hx with rfl | rfl <;> rfl) (bitsQ8 (vI op zs N A (fun _ => []) 0 0 0) (holds_cons (show 0 ≤ N.getD 1 0 from hN.1) holds_nil) (nameH_of hN) (argH0_of hA))
  have hB : RI 12 op zs (.tuple #[.int .i64 (B.getD 0 0), .bool (B.getD 1 0 == 1)]) ∧ RI 18 op zs (.tuple #[.int .i64 (B.getD 0 0), .bool (B.getD 1 0 == 1)]) := ⟨hB0 (12, [inst 8], [.i 0, .b 1]) (by simp), hB0 (18, [inst 8], [.i 0, .b 1]) (by simp)⟩
  generalize B.getD 0 0 = b at hB
  generalize B.getD 1 0 = s at hB
  obtain ⟨I, hI⟩ : ∃ I : Nat → List Int, ∀ k : Nat, k < 4 → ImmC (zs.getD (11 * k + 10) 0) b s (I k) := ⟨fun k => Classical.choose (immC (zs.getD (11 * k + 10) 0) b s (hr (11 * k + 10))), fun k _ => Classical.choose_spec (immC (zs.getD (11 * k + 10) 0) b s (hr (11 * k + 10)))⟩
  have hC : ∃ Y : List Int, Y.length = 1 ∧ PhiC8 (vI op zs N A I b s 0) Y ∧ RI 11 op zs (.int .i64 (Y.getD 0 0)) ∧ RI 19 op zs (.int .i64 (Y.getD 0 0)) := by
    by_cases hb : b = 0
    · obtain ⟨Y, h1, h2, h3⟩ := riN (by omega) (by omega) (nm_of hl) (by intro x hx; simp only [List.mem_cons, List.not_mem_nil, or_false] at hx; rcases hx with rfl | rfl <;> rfl) (checkQ8z (vI op zs N A I b s 0) op zs (nm_of hl) (nameH_of hN) immZ hb hB)
      exact ⟨Y, h1, h2, h3 (11, [inst 8], [.i 0]) (by simp), h3 (19, [inst 8], [.i 0]) (by simp)⟩
    · obtain ⟨Y, h1, h2, h3⟩ := riN (by omega) (by omega) (nm_of hl) (by intro x hx; simp only [List.mem_cons, List.not_mem_nil, or_false] at hx; rcases hx with rfl | rfl <;> rfl) (checkQ8 (vI op zs N A I b s 0) (holds_cons (show b ≠ 0 from hb) holds_nil) op zs (nm_of hl) (nameH_of hN) hB)
      exact ⟨Y, h1, h2, h3 (11, [inst 8], [.i 0]) (by simp), h3 (19, [inst 8], [.i 0]) (by simp)⟩
  obtain ⟨Y, _, hphi, hC⟩ := hC
  refine ⟨b, s, Y.getD 0 0, hB, hC, ?_⟩
  by_cases he : Y.getD 0 0 = 0
  · exact absurd he hphi
  · exact .inl ⟨he, errN (by omega) (by omega) (nm_of hl) (canEQ8 (vI op zs N A I b s (Y.getD 0 0)) (holds_cons (show Y.getD 0 0 ≠ 0 from he) holds_nil) op zs (nm_of hl) hC)⟩

theorem con9 (op : Int) (zs : List Int) (hl : zs.length = 11 * 9) (hr : ∀ k : Nat, In64 (zs.getD k 0)) : Con op zs 9 := by
  obtain ⟨N, hN⟩ := nameC op
  obtain ⟨A, hA⟩ : ∃ A : Nat → List Int, ∀ k : Nat, ArgC (fun i => zs.getD (11 * k + i) 0) (A k) := ⟨fun k => Classical.choose (argC (fun i => zs.getD (11 * k + i) 0)), fun k => Classical.choose_spec (argC (fun i => zs.getD (11 * k + i) 0))⟩
  obtain ⟨B, _, _, hB0⟩ := riN (by omega) (by omega) (nm_of hl) (by intro x hx; simp only [List.mem_cons, List.not_mem_nil, or_false] at hx; rcases hx with rfl | rfl <;> rfl) (bitsQ9 (vI op zs N A (fun _ => []) 0 0 0) (holds_cons (show 0 ≤ N.getD 1 0 from hN.1) holds_nil) (nameH_of hN) (argH0_of hA))
  have hB : RI 12 op zs (.tuple #[.int .i64 (B.getD 0 0), .bool (B.getD 1 0 == 1)]) ∧ RI 18 op zs (.tuple #[.int .i64 (B.getD 0 0), .bool (B.getD 1 0 == 1)]) := ⟨hB0 (12, [inst 9], [.i 0, .b 1]) (by simp), hB0 (18, [inst 9], [.i 0, .b 1]) (by simp)⟩
  generalize B.getD 0 0 = b at hB
  generalize B.getD 1 0 = s at hB
  obtain ⟨I, hI⟩ : ∃ I : Nat → List Int, ∀ k : Nat, k < 4 → ImmC (zs.getD (11 * k + 10) 0) b s (I k) := ⟨fun k => Classical.choose (immC (zs.getD (11 * k + 10) 0) b s (hr (11 * k + 10))), fun k _ => Classical.choose_spec (immC (zs.getD (11 * k + 10) 0) b s (hr (11 * k + 10)))⟩
  have hC : ∃ Y : List Int, Y.length = 1 ∧ PhiC9 (vI op zs N A I b s 0) Y ∧ RI 11 op zs (.int .i64 (Y.getD 0 0)) ∧ RI 19 op zs (.int .i64 (Y.getD 0 0)) := by
    by_cases hb : b = 0
    · obtain ⟨Y, h1, h2, h3⟩ := riN (by omega) (by omega) (nm_of hl) (by intro x hx; simp only [List.mem_cons, List.not_mem_nil, or_false] at hx; rcases hx with rfl | rfl <;> rfl) (checkQ9z (vI op zs N A I b s 0) op zs (nm_of hl) (nameH_of hN) immZ hb hB)
      exact ⟨Y, h1, h2, h3 (11, [inst 9], [.i 0]) (by simp), h3 (19, [inst 9], [.i 0]) (by simp)⟩
    · obtain ⟨Y, h1, h2, h3⟩ := riN (by omega) (by omega) (nm_of hl) (by intro x hx; simp only [List.mem_cons, List.not_mem_nil, or_false] at hx; rcases hx with rfl | rfl <;> rfl) (checkQ9 (vI op zs N A I b s 0) (holds_cons (show b ≠ 0 from hb) holds_nil) op zs (nm_of hl) (nameH_of hN) hB)
      exact ⟨Y, h1, h2, h3 (11, [inst 9], [.i 0]) (by simp), h3 (19, [inst 9], [.i 0]) (by simp)⟩
  obtain ⟨Y, _, hphi, hC⟩ := hC
  refine ⟨b, s, Y.getD 0 0, hB, hC, ?_⟩
  by_cases he : Y.getD 0 0 = 0
  · exact absurd he hphi
  · exact .inl ⟨he, errN (by omega) (by omega) (nm_of hl) (canEQ9 (vI op zs N A I b s (Y.getD 0 0)) (holds_cons (show Y.getD 0 0 ≠ 0 from he) holds_nil) op zs (nm_of hl) hC)⟩

theorem conAll (op : Int) (zs : List Int) (n : Nat) (h9 : n ≤ 9) (hl : zs.length = 11 * n) (hr : ∀ k : Nat, In64 (zs.getD k 0)) : Con op zs n := by
  match n, h9, hl with
  | 0, _, hl => exact con0 op zs hl hr
  | 1, _, hl => exact con1 op zs hl hr
  | 2, _, hl => exact con2 op zs hl hr
  | 3, _, hl => exact con3 op zs hl hr
  | 4, _, hl => exact con4 op zs hl hr
  | 5, _, hl => exact con5 op zs hl hr
  | 6, _, hl => exact con6 op zs hl hr
  | 7, _, hl => exact con7 op zs hl hr
  | 8, _, hl => exact con8 op zs hl hr
  | 9, _, hl => exact con9 op zs hl hr

end Go.Proofs.Ytndiilfjeconbaa.Tab
