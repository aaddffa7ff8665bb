/-
  Instructions by lengths: names, tables, claims.
-/
import Derived.Test.YtndiilfjeconbaaSimM
import Derived.Test.YtndiilfjeconbaaKnownH
import Derived.Test.YtndiilfjeconbaaArgJH
namespace Go.Proofs.Ytndiilfjeconbaa.Tab
open Go.Sim
set_option maxRecDepth 100000

abbrev a (k : Nat) : AV := .sx .i64 (.a k)

abbrev bo (k : Nat) : AV := .sb (.eq (.a k) (.c 1))

abbrev ci (n : Nat) : AV := .v (.int .i64 (.ofNat n))

abbrev nilS : AV := .v (.slice none 0 0)

/-- The names of the operands' cells. -/
def c99 : List AV := [.sx .i64 (.a 40), .sx .i64 (.a 41), .sx .i64 (.a 42), .sx .i64 (.a 43), .sx .i64 (.a 44), .sx .i64 (.a 45), .sx .i64 (.a 46), .sx .i64 (.a 47), .sx .i64 (.a 48), .sx .i64 (.a 49), .sx .i64 (.a 50), .sx .i64 (.a 80), .sx .i64 (.a 81), .sx .i64 (.a 82), .sx .i64 (.a 83), .sx .i64 (.a 84), .sx .i64 (.a 85), .sx .i64 (.a 86), .sx .i64 (.a 87), .sx .i64 (.a 88), .sx .i64 (.a 89), .sx .i64 (.a 90), .sx .i64 (.a 120), .sx .i64 (.a 121), .sx .i64 (.a 122), .sx .i64 (.a 123), .sx .i64 (.a 124), .sx .i64 (.a 125), .sx .i64 (.a 126), .sx .i64 (.a 127), .sx .i64 (.a 128), .sx .i64 (.a 129), .sx .i64 (.a 130), .sx .i64 (.a 160), .sx .i64 (.a 161), .sx .i64 (.a 162), .sx .i64 (.a 163), .sx .i64 (.a 164), .sx .i64 (.a 165), .sx .i64 (.a 166), .sx .i64 (.a 167), .sx .i64 (.a 168), .sx .i64 (.a 169), .sx .i64 (.a 170), .sx .i64 (.a 200), .sx .i64 (.a 201), .sx .i64 (.a 202), .sx .i64 (.a 203), .sx .i64 (.a 204), .sx .i64 (.a 205), .sx .i64 (.a 206), .sx .i64 (.a 207), .sx .i64 (.a 208), .sx .i64 (.a 209), .sx .i64 (.a 210), .sx .i64 (.a 240), .sx .i64 (.a 241), .sx .i64 (.a 242), .sx .i64 (.a 243), .sx .i64 (.a 244), .sx .i64 (.a 245), .sx .i64 (.a 246), .sx .i64 (.a 247), .sx .i64 (.a 248), .sx .i64 (.a 249), .sx .i64 (.a 250), .sx .i64 (.a 280), .sx .i64 (.a 281), .sx .i64 (.a 282), .sx .i64 (.a 283), .sx .i64 (.a 284), .sx .i64 (.a 285), .sx .i64 (.a 286), .sx .i64 (.a 287), .sx .i64 (.a 288), .sx .i64 (.a 289), .sx .i64 (.a 290), .sx .i64 (.a 320), .sx .i64 (.a 321), .sx .i64 (.a 322), .sx .i64 (.a 323), .sx .i64 (.a 324), .sx .i64 (.a 325), .sx .i64 (.a 326), .sx .i64 (.a 327), .sx .i64 (.a 328), .sx .i64 (.a 329), .sx .i64 (.a 330), .sx .i64 (.a 360), .sx .i64 (.a 361), .sx .i64 (.a 362), .sx .i64 (.a 363), .sx .i64 (.a 364), .sx .i64 (.a 365), .sx .i64 (.a 366), .sx .i64 (.a 367), .sx .i64 (.a 368), .sx .i64 (.a 369), .sx .i64 (.a 370)]

noncomputable abbrev cl (n : Nat) : List AV := takeL (11 * n) c99

abbrev inst (n : Nat) : AV := .agg [a 0, .os 0 0 n 1 0]

abbrev instN : AV := .agg [a 0, nilS]

abbrev instE : AV := .agg [a 0, .osl 1]

noncomputable abbrev outs (n : Nat) : List (Nat × List AV) := [(11, cl n)]

abbrev patN : Pt := .ag [.av (a 0), .av nilS]

abbrev patE : Pt := .ag [.av (a 0), .em]

noncomputable abbrev pat (n : Nat) : Pt := .ag [.av (a 0), .sl 11 (cl n)]

/-- Slices' addresses: none; not nil. -/
def G1 (sla : Nat → Option Addr × Nat) : Prop := sla = sl0

def GZ (sla : Nat → Option Addr × Nat) : Prop := ∃ ad cap, sla = fun _ => (some ad, cap)

theorem wfN (n : Nat) : wfVs (· < (outs n).length) [inst n] := ⟨⟨trivial, Nat.zero_lt_one, trivial⟩, trivial⟩

theorem wfZ (b : Bool) : wfVs (· < ([] : List (Nat × List AV)).length) [cond b instN instE] := by cases b <;> exact ⟨⟨trivial, trivial, trivial⟩, trivial⟩

/-! In plain terms. -/

/-- A slice of operands of these numbers, eleven to each. -/
def SliV (w : World) (x : Value) (zs : List Int) : Prop := (zs = [] ∧ (x = .slice none 0 0 ∨ ∃ ad cap, x = .slice (some ad) 0 cap)) ∨ SlOf w 11 x (zs.map (Value.int .i64))

abbrev insV (op : Int) (x : Value) : Value := .agg #[.int .i64 op, x]

/-- What a call of an instruction gives. -/
def RI (f : FuncId) (op : Int) (zs : List Int) (v : Value) : Prop := ∀ w x, SliV w x zs → Calls Try.prog f #[insV op x] w fun e w' => e = .returned v ∧ RowKit.Below w.heap.size w w'

/-- The names stand for these. -/
def NmN (val : Nat → Int) (op : Int) (zs : List Int) (n : Nat) : Prop := val 0 = op ∧ zs.length = 11 * n ∧ ∀ i, i < 11 * n → val (40 + 40 * (i / 11) + i % 11) = zs.getD i 0

theorem takeL_take : ∀ (n : Nat) (l : List AV), takeL n l = l.take n := by
  intro n
  induction n with
  | zero => intro l; rfl
  | succ n ih => intro l; cases l with
    | nil => rfl
    | cons x r => show x :: takeL n r = _; rw [ih r]; rfl

theorem c99_eq : c99 = (List.range 99).map (fun i => AV.sx .i64 (.a (40 + 40 * (i / 11) + i % 11))) := rfl

theorem cl_get {n i : Nat} (h9 : n ≤ 9) (h : i < 11 * n) : (cl n)[i]? = some (.sx .i64 (.a (40 + 40 * (i / 11) + i % 11))) := by
  rw [cl, takeL_take, List.getElem?_take, if_pos h, c99_eq, List.getElem?_map, List.getElem?_range (by omega)]
  rfl

theorem cl_len {n : Nat} (h9 : n ≤ 9) : (cl n).length = 11 * n := by
  rw [cl, takeL_take, List.length_take]
  have : c99.length = 99 := rfl
  omega

theorem cl_concs {I : Syms} {n : Nat} {zs : List Int} (h9 : n ≤ 9) (hl : zs.length = 11 * n) (hc : ∀ i, i < 11 * n → I.val (40 + 40 * (i / 11) + i % 11) = zs.getD i 0) (E : Env) : @concs I E (cl n) = zs.map (Value.int .i64) := by
  rw [@concs_eq I]
  apply List.ext_getElem?
  intro i
  rw [List.getElem?_map, List.getElem?_map]
  by_cases hi : i < 11 * n
  · rw [cl_get h9 hi, List.getElem?_eq_getElem (by omega)]
    simp only [Option.map_some, conc, SX.eval]
    rw [hc i hi, List.getD_eq_getElem?_getD, List.getElem?_eq_getElem (by omega)]
    rfl
  · rw [List.getElem?_eq_none (by rw [cl_len h9]; omega), List.getElem?_eq_none (by omega)]
    rfl

theorem nm_upd {val : Nat → Int} {op : Int} {zs : List Int} {n : Nat} (h : NmN val op zs n) (j : Nat) (hj : 0 < j ∧ j < 40) (c : Int) : NmN (Sim.upd val j c) op zs n := by
  refine ⟨?_, h.2.1, fun i hi => ?_⟩
  · show (if 0 = j then c else val 0) = op
    rw [if_neg (by omega)]; exact h.1
  · show (if _ = j then c else val _) = _
    rw [if_neg (by omega)]; exact h.2.2 i hi

theorem outs_ok {val : Nat → Int} {op : Int} {zs : List Int} {n b off : Nat} {w : World} {sla : Nat → Option Addr × Nat} (h9 : n ≤ 9) (h : NmN val op zs n) (hb : b < w.heap.size) (hc : ∀ (i : Nat) (z : Value), (zs.map (Value.int .i64))[i]? = some z → w.cell? ⟨b, off + i, none⟩ = some z) :
    @OutOK (nameS val sla) ⟨fun _ => b, fun _ => off⟩ w (outs n) := by
  intro k o hk
  cases k with
  | zero =>
    simp only [outs, List.getElem?_cons_zero, Option.some.injEq] at hk
    subst hk
    refine ⟨hb, fun _ i v hv => ?_, fun ki k0 m he => by simp at he⟩
    have e := cl_concs (I := nameS val sla) h9 h.2.1 h.2.2 ⟨fun _ => b, fun _ => off⟩
    refine hc i _ ?_
    rw [← e, @concs_eq (nameS val sla), List.getElem?_map]
    have hv : (cl n)[i]? = some v := hv
    rw [hv]
    rfl
  | succ k => simp [outs] at hk

theorem sli_pos {w : World} {x : Value} {zs : List Int} {n : Nat} (hn : 0 < n) (hl : zs.length = 11 * n) (h : SliV w x zs) : ∃ b off cap, x = .slice (some ⟨b, off, none⟩) n cap ∧ n ≤ cap ∧ b < w.heap.size ∧ ∀ (i : Nat) (z : Value), (zs.map (Value.int .i64))[i]? = some z → w.cell? ⟨b, off + i, none⟩ = some z := by
  rcases h with ⟨rfl, _⟩ | ⟨b, off, len, cap, h0, rfl, h2, h3, h4, h5⟩
  · simp at hl; omega
  · rw [List.length_map] at h2
    obtain rfl : len = n := by omega
    exact ⟨b, off, cap, rfl, h3, h4, h5⟩

theorem inst_conc {val : Nat → Int} {op : Int} {n b off cap : Nat} {sla : Nat → Option Addr × Nat} (h : val 0 = op) : (@concs (nameS (Sim.upd val 1 cap) sla) ⟨fun _ => b, fun _ => off⟩ [inst n]).toArray = #[insV op (.slice (some ⟨b, off, none⟩) n cap)] := by
  subst h
  simp only [concs, conc]
  rfl

/-- From names to numbers. -/
theorem riN {n : Nat} (hn : 0 < n) (h9 : n ≤ 9) {val : Nat → Int} {op : Int} {zs : List Int} (hm : NmN val op zs n) {l : List (FuncId × List AV × List Sh)} {m : Nat} {R : List Int → Prop} (hl : ∀ x ∈ l, x.2.1 = [inst n]) (h : QC Try.prog G1 1 n (outs n) l m R val) :
    ∃ Y : List Int, Y.length = m ∧ R Y ∧ ∀ x ∈ l, RI x.1 op zs (shV x.2.2 Y) := by
  obtain ⟨Y, h1, h2, h3⟩ := h
  refine ⟨Y, h1, h2, fun x hx w s hs => ?_⟩
  obtain ⟨b, off, cap, rfl, g1, g2, g3⟩ := sli_pos hn hm.2.1 hs
  have h4 := h3 cap sl0 (by omega) rfl x hx ⟨fun _ => b, fun _ => off⟩ w (outs_ok h9 (nm_upd hm 1 (by omega) cap) g2 g3)
  rw [hl x hx, inst_conc hm.1] at h4
  exact h4

theorem out0 (I : Syms) (E : Env) (w : World) : @OutOK I E w [] := fun k o hk => by simp at hk

theorem riZ {val : Nat → Int} {op : Int} (h0 : val 0 = op) (h1 : val 1 = 0) {l : List (FuncId × List AV × List Sh)} {m : Nat} {R : List Int → Prop} (h : QC Try.prog GZ 39 0 [] l m R val) :
    ∃ Y : List Int, Y.length = m ∧ R Y ∧ ∀ f sh, (f, [instN], sh) ∈ l → (f, [instE], sh) ∈ l → RI f op [] (shV sh Y) := by
  obtain ⟨Y, k1, k2, k3⟩ := h
  refine ⟨Y, k1, k2, fun f sh hN hE w s hs => ?_⟩
  subst h0
  rcases hs with ⟨_, rfl | ⟨ad, cap, rfl⟩⟩ | ⟨b, off, len, cap, g0, _, g2, _⟩
  · have := k3 0 (fun _ => (some ⟨0, 0, none⟩, 0)) (Int.le_refl _) ⟨_, _, rfl⟩ _ hN E0 w (out0 _ _ _)
    have e : (@concs (nameS (Sim.upd val 39 0) fun _ => (some ⟨0, 0, none⟩, 0)) E0 [instN]).toArray = #[insV (val 0) (.slice none 0 0)] := by
      simp only [concs, conc]
      rfl
    rw [e] at this
    exact this
  · have := k3 0 (fun _ => (some ad, cap)) (Int.le_refl _) ⟨_, _, rfl⟩ _ hE E0 w (out0 _ _ _)
    have e : (@concs (nameS (Sim.upd val 39 0) fun _ => (some ad, cap)) E0 [instE]).toArray = #[insV (val 0) (.slice (some ad) 0 cap)] := by
      simp only [concs, conc]
      show #[Value.agg #[.int .i64 (val 0), .slice (some ad) (val 1).toNat cap]] = _
      rw [h1]
      rfl
    rw [e] at this
    exact this
  · simp at g2; omega

/-! What a pattern says. -/

theorem pat_of {val : Nat → Int} {op : Int} {zs : List Int} {n : Nat} {sla : Nat → Option Addr × Nat} (h9 : n ≤ 9) (h : NmN val op zs n) {w : World} {vs : List Value} (hp : @PtsOf (nameS val sla) w [pat n] vs) : ∃ x, vs = [insV op x] ∧ SliV w x zs := by
  obtain ⟨v, us, rfl, ⟨ws, rfl, y, ys, rfl, h1, ⟨z, zs', rfl, h2, rfl⟩⟩, rfl⟩ := hp
  have h1 : y = .int .i64 (val 0) := h1
  have h2 : SlOf w 11 z (@concs (nameS val sla) E0 (cl n)) := h2
  rw [cl_concs (I := nameS val sla) h9 h.2.1 h.2.2] at h2
  subst h1
  exact ⟨z, by rw [← h.1], .inr h2⟩

theorem patN_of {val : Nat → Int} {op : Int} {sla : Nat → Option Addr × Nat} (h : val 0 = op) {w : World} {vs : List Value} (hp : @PtsOf (nameS val sla) w [patN] vs) : ∃ x, vs = [insV op x] ∧ SliV w x [] ∧ x = .slice none 0 0 := by
  obtain ⟨v, us, rfl, ⟨ws, rfl, y, ys, rfl, h1, ⟨z, zs', rfl, h2, rfl⟩⟩, rfl⟩ := hp
  have h1 : y = .int .i64 (val 0) := h1
  have h2 : z = .slice none 0 0 := h2
  subst h1 h2
  exact ⟨_, by rw [← h], .inl ⟨rfl, .inl rfl⟩, rfl⟩

theorem patE_of {val : Nat → Int} {op : Int} {sla : Nat → Option Addr × Nat} (h : val 0 = op) {w : World} {vs : List Value} (hp : @PtsOf (nameS val sla) w [patE] vs) : ∃ x, vs = [insV op x] ∧ SliV w x [] ∧ ∃ ad cap, x = .slice (some ad) 0 cap := by
  obtain ⟨v, us, rfl, ⟨ws, rfl, y, ys, rfl, h1, ⟨z, zs', rfl, h2, rfl⟩⟩, rfl⟩ := hp
  have h1 : y = .int .i64 (val 0) := h1
  have h2 : ∃ ad cap, z = .slice (some ad) 0 cap := h2
  subst h1
  exact ⟨_, by rw [← h], .inl ⟨rfl, .inr h2⟩, h2⟩

/-- An entry of a table out of what is known of a call. -/
theorem me_of {val : Nat → Int} {op : Int} {zs : List Int} {sla : Nat → Option Addr × Nat} {p : Pt} {f : FuncId} {v : Value} {v0 : AV} (hp : ∀ w vs, @PtsOf (nameS val sla) w [p] vs → ∃ x, vs = [insV op x] ∧ SliV w x zs) (hv : v = @conc (nameS val sla) E0 v0) (h : RI f op zs v) :
    ∀ w vs, @PtsOf (nameS val sla) w [p] vs → @SummV (nameS val sla) Try.prog f vs v0 [] w := by
  intro w vs hvs
  obtain ⟨x, rfl, hx⟩ := hp w vs hvs
  exact @summV_plain Try.prog (nameS val sla) f _ v0 v w hv (h w x hx)

theorem mNil {val : Nat → Int} {sla : Nat → Option Addr × Nat} : MTabOK Try.prog val sla [] := fun x hx => by cases hx

theorem mCons {val : Nat → Int} {sla : Nat → Option Addr × Nat} {x : ME} {l : List ME} (h : ∀ w vs, @PtsOf (nameS val sla) w x.ps vs → @SummV (nameS val sla) Try.prog x.f vs x.v0 x.bs w) (hl : MTabOK Try.prog val sla l) : MTabOK Try.prog val sla (x :: l) := by
  intro y hy
  rcases List.mem_cons.1 hy with rfl | hy
  · exact h
  · exact hl y hy

theorem tNil {val : Nat → Int} {sla : Nat → Option Addr × Nat} : TabOK Try.prog val sla [] := fun x hx => by cases hx

theorem tCons {val : Nat → Int} {sla : Nat → Option Addr × Nat} {f : FuncId} {args : List AV} {v : AV} {l : List (FuncId × List AV × AV)} (h : Ret Try.prog f (@concs (nameS val sla) E0 args) (@conc (nameS val sla) E0 v)) (hl : TabOK Try.prog val sla l) : TabOK Try.prog val sla ((f, args, v) :: l) := by
  intro y hy
  rcases List.mem_cons.1 hy with rfl | hy
  · exact h
  · exact hl y hy

/-! What is known of the parts. -/

def NameH (val : Nat → Int) : Prop := Ret Try.prog 25 [.int .i64 (val 0)] (.bool (val 2 == 1)) ∧ Ret Try.prog 41 [.int .i64 (val 0)] (.bool (val 2 == 1)) ∧ Ret Try.prog 28 [.int .i64 (val 0)] (.tuple #[.int .i64 (val 3), .bool (val 4 == 1)]) ∧ Ret Try.prog 40 [.int .i64 (val 0)] (.tuple #[.int .i64 (val 3), .bool (val 4 == 1)])

abbrev nameT : List (FuncId × List AV × AV) := [(25, [a 0], bo 2), (41, [a 0], bo 2), (28, [a 0], .tup [a 3, bo 4]), (40, [a 0], .tup [a 3, bo 4])]

/-- Bits of no bits: an error. -/
def ImmZ : Prop := ∀ (n : Int) (s : Bool), Ret Try.prog 27 [.int .i64 n, .int .i64 0, .bool s] (.tuple #[.int .i64 0, .int .i64 2]) ∧ Ret Try.prog 37 [.int .i64 n, .int .i64 0, .bool s] (.tuple #[.int .i64 0, .int .i64 2])

def BitsR (val : Nat → Int) (op : Int) (zs : List Int) : Prop := RI 12 op zs (.tuple #[.int .i64 (val 5), .bool (val 6 == 1)]) ∧ RI 18 op zs (.tuple #[.int .i64 (val 5), .bool (val 6 == 1)])

def CheckR (val : Nat → Int) (op : Int) (zs : List Int) : Prop := RI 11 op zs (.int .i64 (val 7)) ∧ RI 19 op zs (.int .i64 (val 7))

abbrev bitsM (z : Bool) (p : Pt) : List ME := [⟨12, [p], .tup [cond z (ci 0) (a 5), bo 6], []⟩, ⟨18, [p], .tup [cond z (ci 0) (a 5), bo 6], []⟩]

abbrev checkM (p : Pt) : List ME := [⟨11, [p], a 7, []⟩, ⟨19, [p], a 7, []⟩]

abbrev row0 : List AV := [a 40, a 41, a 42, a 43, a 44, a 45, a 46, a 47, a 48, a 49, a 50]

def ArgH0 (val : Nat → Int) : Prop := Ret Try.prog 26 [.agg #[.int .i64 (val 40), .int .i64 (val 41), .int .i64 (val 42), .int .i64 (val 43), .int .i64 (val 44), .int .i64 (val 45), .int .i64 (val 46), .int .i64 (val 47), .int .i64 (val 48), .int .i64 (val 49), .int .i64 (val 50)]] (.int .i64 (val 51)) ∧ Ret Try.prog 43 [.agg #[.int .i64 (val 40), .int .i64 (val 41), .int .i64 (val 42), .int .i64 (val 43), .int .i64 (val 44), .int .i64 (val 45), .int .i64 (val 46), .int .i64 (val 47), .int .i64 (val 48), .int .i64 (val 49), .int .i64 (val 50)]] (.int .i64 (val 51)) ∧ Ret Try.prog 29 [.agg #[.int .i64 (val 40), .int .i64 (val 41), .int .i64 (val 42), .int .i64 (val 43), .int .i64 (val 44), .int .i64 (val 45), .int .i64 (val 46), .int .i64 (val 47), .int .i64 (val 48), .int .i64 (val 49), .int .i64 (val 50)]] (.int .i64 (val 52)) ∧ Ret Try.prog 42 [.agg #[.int .i64 (val 40), .int .i64 (val 41), .int .i64 (val 42), .int .i64 (val 43), .int .i64 (val 44), .int .i64 (val 45), .int .i64 (val 46), .int .i64 (val 47), .int .i64 (val 48), .int .i64 (val 49), .int .i64 (val 50)]] (.int .i64 (val 52))

abbrev argT0 : List (FuncId × List AV × AV) := [(26, [.agg row0], a 51), (43, [.agg row0], a 51), (29, [.agg row0], a 52), (42, [.agg row0], a 52)]

def ImmH0 (val : Nat → Int) : Prop := Ret Try.prog 27 [.int .i64 (val 50), .int .i64 (val 5), .bool (val 6 == 1)] (.tuple #[.int .i64 (val 72), .int .i64 (val 71)]) ∧ Ret Try.prog 37 [.int .i64 (val 50), .int .i64 (val 5), .bool (val 6 == 1)] (.tuple #[.int .i64 (val 72), .int .i64 (val 71)])

abbrev immT0 : List (FuncId × List AV × AV) := [(27, [a 50, a 5, bo 6], .tup [a 72, a 71]), (37, [a 50, a 5, bo 6], .tup [a 72, a 71])]

abbrev immT0z : List (FuncId × List AV × AV) := [(27, [a 50, ci 0, bo 6], .tup [ci 0, ci 2]), (37, [a 50, ci 0, bo 6], .tup [ci 0, ci 2])]

abbrev can0 : AV := .tup [.agg [a 40, a 61, a 62, a 63, a 64, a 65, a 66, a 67, a 68, a 69, a 70], ci 0]

def CanH0 (val : Nat → Int) : Prop := Ret Try.prog 32 [.agg #[.int .i64 (val 40), .int .i64 (val 41), .int .i64 (val 42), .int .i64 (val 43), .int .i64 (val 44), .int .i64 (val 45), .int .i64 (val 46), .int .i64 (val 47), .int .i64 (val 48), .int .i64 (val 49), .int .i64 (val 50)]] (.tuple #[.agg #[.int .i64 (val 40), .int .i64 (val 61), .int .i64 (val 62), .int .i64 (val 63), .int .i64 (val 64), .int .i64 (val 65), .int .i64 (val 66), .int .i64 (val 67), .int .i64 (val 68), .int .i64 (val 69), .int .i64 (val 70)], .int .i64 0]) ∧ Ret Try.prog 36 [.agg #[.int .i64 (val 40), .int .i64 (val 41), .int .i64 (val 42), .int .i64 (val 43), .int .i64 (val 44), .int .i64 (val 45), .int .i64 (val 46), .int .i64 (val 47), .int .i64 (val 48), .int .i64 (val 49), .int .i64 (val 50)]] (.tuple #[.agg #[.int .i64 (val 40), .int .i64 (val 61), .int .i64 (val 62), .int .i64 (val 63), .int .i64 (val 64), .int .i64 (val 65), .int .i64 (val 66), .int .i64 (val 67), .int .i64 (val 68), .int .i64 (val 69), .int .i64 (val 70)], .int .i64 0])

abbrev canT0 : List (FuncId × List AV × AV) := [(32, [.agg row0], can0), (36, [.agg row0], can0)]

abbrev can0i : AV := .tup [.agg [a 40, a 61, a 62, a 63, a 64, a 65, a 66, a 67, a 68, a 69, a 50], ci 0]

def CanH0i (val : Nat → Int) : Prop := Ret Try.prog 32 [.agg #[.int .i64 (val 40), .int .i64 (val 41), .int .i64 (val 42), .int .i64 (val 43), .int .i64 (val 44), .int .i64 (val 45), .int .i64 (val 46), .int .i64 (val 47), .int .i64 (val 48), .int .i64 (val 49), .int .i64 (val 50)]] (.tuple #[.agg #[.int .i64 (val 40), .int .i64 (val 61), .int .i64 (val 62), .int .i64 (val 63), .int .i64 (val 64), .int .i64 (val 65), .int .i64 (val 66), .int .i64 (val 67), .int .i64 (val 68), .int .i64 (val 69), .int .i64 (val 50)], .int .i64 0]) ∧ Ret Try.prog 36 [.agg #[.int .i64 (val 40), .int .i64 (val 41), .int .i64 (val 42), .int .i64 (val 43), .int .i64 (val 44), .int .i64 (val 45), .int .i64 (val 46), .int .i64 (val 47), .int .i64 (val 48), .int .i64 (val 49), .int .i64 (val 50)]] (.tuple #[.agg #[.int .i64 (val 40), .int .i64 (val 61), .int .i64 (val 62), .int .i64 (val 63), .int .i64 (val 64), .int .i64 (val 65), .int .i64 (val 66), .int .i64 (val 67), .int .i64 (val 68), .int .i64 (val 69), .int .i64 (val 50)], .int .i64 0]) ∧ Ret Try.prog 27 [.int .i64 (val 50), .int .i64 (val 5), .bool (val 6 == 1)] (.tuple #[.int .i64 (val 72), .int .i64 0]) ∧ Ret Try.prog 37 [.int .i64 (val 50), .int .i64 (val 5), .bool (val 6 == 1)] (.tuple #[.int .i64 (val 72), .int .i64 0])

abbrev canT0i : List (FuncId × List AV × AV) := [(32, [.agg row0], can0i), (36, [.agg row0], can0i), (27, [a 50, a 5, bo 6], .tup [a 72, ci 0]), (37, [a 50, a 5, bo 6], .tup [a 72, ci 0])]

abbrev row1 : List AV := [a 80, a 81, a 82, a 83, a 84, a 85, a 86, a 87, a 88, a 89, a 90]

def ArgH1 (val : Nat → Int) : Prop := Ret Try.prog 26 [.agg #[.int .i64 (val 80), .int .i64 (val 81), .int .i64 (val 82), .int .i64 (val 83), .int .i64 (val 84), .int .i64 (val 85), .int .i64 (val 86), .int .i64 (val 87), .int .i64 (val 88), .int .i64 (val 89), .int .i64 (val 90)]] (.int .i64 (val 91)) ∧ Ret Try.prog 43 [.agg #[.int .i64 (val 80), .int .i64 (val 81), .int .i64 (val 82), .int .i64 (val 83), .int .i64 (val 84), .int .i64 (val 85), .int .i64 (val 86), .int .i64 (val 87), .int .i64 (val 88), .int .i64 (val 89), .int .i64 (val 90)]] (.int .i64 (val 91)) ∧ Ret Try.prog 29 [.agg #[.int .i64 (val 80), .int .i64 (val 81), .int .i64 (val 82), .int .i64 (val 83), .int .i64 (val 84), .int .i64 (val 85), .int .i64 (val 86), .int .i64 (val 87), .int .i64 (val 88), .int .i64 (val 89), .int .i64 (val 90)]] (.int .i64 (val 92)) ∧ Ret Try.prog 42 [.agg #[.int .i64 (val 80), .int .i64 (val 81), .int .i64 (val 82), .int .i64 (val 83), .int .i64 (val 84), .int .i64 (val 85), .int .i64 (val 86), .int .i64 (val 87), .int .i64 (val 88), .int .i64 (val 89), .int .i64 (val 90)]] (.int .i64 (val 92))

abbrev argT1 : List (FuncId × List AV × AV) := [(26, [.agg row1], a 91), (43, [.agg row1], a 91), (29, [.agg row1], a 92), (42, [.agg row1], a 92)]

def ImmH1 (val : Nat → Int) : Prop := Ret Try.prog 27 [.int .i64 (val 90), .int .i64 (val 5), .bool (val 6 == 1)] (.tuple #[.int .i64 (val 112), .int .i64 (val 111)]) ∧ Ret Try.prog 37 [.int .i64 (val 90), .int .i64 (val 5), .bool (val 6 == 1)] (.tuple #[.int .i64 (val 112), .int .i64 (val 111)])

abbrev immT1 : List (FuncId × List AV × AV) := [(27, [a 90, a 5, bo 6], .tup [a 112, a 111]), (37, [a 90, a 5, bo 6], .tup [a 112, a 111])]

abbrev immT1z : List (FuncId × List AV × AV) := [(27, [a 90, ci 0, bo 6], .tup [ci 0, ci 2]), (37, [a 90, ci 0, bo 6], .tup [ci 0, ci 2])]

abbrev can1 : AV := .tup [.agg [a 80, a 101, a 102, a 103, a 104, a 105, a 106, a 107, a 108, a 109, a 110], ci 0]

def CanH1 (val : Nat → Int) : Prop := Ret Try.prog 32 [.agg #[.int .i64 (val 80), .int .i64 (val 81), .int .i64 (val 82), .int .i64 (val 83), .int .i64 (val 84), .int .i64 (val 85), .int .i64 (val 86), .int .i64 (val 87), .int .i64 (val 88), .int .i64 (val 89), .int .i64 (val 90)]] (.tuple #[.agg #[.int .i64 (val 80), .int .i64 (val 101), .int .i64 (val 102), .int .i64 (val 103), .int .i64 (val 104), .int .i64 (val 105), .int .i64 (val 106), .int .i64 (val 107), .int .i64 (val 108), .int .i64 (val 109), .int .i64 (val 110)], .int .i64 0]) ∧ Ret Try.prog 36 [.agg #[.int .i64 (val 80), .int .i64 (val 81), .int .i64 (val 82), .int .i64 (val 83), .int .i64 (val 84), .int .i64 (val 85), .int .i64 (val 86), .int .i64 (val 87), .int .i64 (val 88), .int .i64 (val 89), .int .i64 (val 90)]] (.tuple #[.agg #[.int .i64 (val 80), .int .i64 (val 101), .int .i64 (val 102), .int .i64 (val 103), .int .i64 (val 104), .int .i64 (val 105), .int .i64 (val 106), .int .i64 (val 107), .int .i64 (val 108), .int .i64 (val 109), .int .i64 (val 110)], .int .i64 0])

abbrev canT1 : List (FuncId × List AV × AV) := [(32, [.agg row1], can1), (36, [.agg row1], can1)]

abbrev can1i : AV := .tup [.agg [a 80, a 101, a 102, a 103, a 104, a 105, a 106, a 107, a 108, a 109, a 90], ci 0]

def CanH1i (val : Nat → Int) : Prop := Ret Try.prog 32 [.agg #[.int .i64 (val 80), .int .i64 (val 81), .int .i64 (val 82), .int .i64 (val 83), .int .i64 (val 84), .int .i64 (val 85), .int .i64 (val 86), .int .i64 (val 87), .int .i64 (val 88), .int .i64 (val 89), .int .i64 (val 90)]] (.tuple #[.agg #[.int .i64 (val 80), .int .i64 (val 101), .int .i64 (val 102), .int .i64 (val 103), .int .i64 (val 104), .int .i64 (val 105), .int .i64 (val 106), .int .i64 (val 107), .int .i64 (val 108), .int .i64 (val 109), .int .i64 (val 90)], .int .i64 0]) ∧ Ret Try.prog 36 [.agg #[.int .i64 (val 80), .int .i64 (val 81), .int .i64 (val 82), .int .i64 (val 83), .int .i64 (val 84), .int .i64 (val 85), .int .i64 (val 86), .int .i64 (val 87), .int .i64 (val 88), .int .i64 (val 89), .int .i64 (val 90)]] (.tuple #[.agg #[.int .i64 (val 80), .int .i64 (val 101), .int .i64 (val 102), .int .i64 (val 103), .int .i64 (val 104), .int .i64 (val 105), .int .i64 (val 106), .int .i64 (val 107), .int .i64 (val 108), .int .i64 (val 109), .int .i64 (val 90)], .int .i64 0]) ∧ Ret Try.prog 27 [.int .i64 (val 90), .int .i64 (val 5), .bool (val 6 == 1)] (.tuple #[.int .i64 (val 112), .int .i64 0]) ∧ Ret Try.prog 37 [.int .i64 (val 90), .int .i64 (val 5), .bool (val 6 == 1)] (.tuple #[.int .i64 (val 112), .int .i64 0])

abbrev canT1i : List (FuncId × List AV × AV) := [(32, [.agg row1], can1i), (36, [.agg row1], can1i), (27, [a 90, a 5, bo 6], .tup [a 112, ci 0]), (37, [a 90, a 5, bo 6], .tup [a 112, ci 0])]

abbrev row2 : List AV := [a 120, a 121, a 122, a 123, a 124, a 125, a 126, a 127, a 128, a 129, a 130]

def ArgH2 (val : Nat → Int) : Prop := Ret Try.prog 26 [.agg #[.int .i64 (val 120), .int .i64 (val 121), .int .i64 (val 122), .int .i64 (val 123), .int .i64 (val 124), .int .i64 (val 125), .int .i64 (val 126), .int .i64 (val 127), .int .i64 (val 128), .int .i64 (val 129), .int .i64 (val 130)]] (.int .i64 (val 131)) ∧ Ret Try.prog 43 [.agg #[.int .i64 (val 120), .int .i64 (val 121), .int .i64 (val 122), .int .i64 (val 123), .int .i64 (val 124), .int .i64 (val 125), .int .i64 (val 126), .int .i64 (val 127), .int .i64 (val 128), .int .i64 (val 129), .int .i64 (val 130)]] (.int .i64 (val 131)) ∧ Ret Try.prog 29 [.agg #[.int .i64 (val 120), .int .i64 (val 121), .int .i64 (val 122), .int .i64 (val 123), .int .i64 (val 124), .int .i64 (val 125), .int .i64 (val 126), .int .i64 (val 127), .int .i64 (val 128), .int .i64 (val 129), .int .i64 (val 130)]] (.int .i64 (val 132)) ∧ Ret Try.prog 42 [.agg #[.int .i64 (val 120), .int .i64 (val 121), .int .i64 (val 122), .int .i64 (val 123), .int .i64 (val 124), .int .i64 (val 125), .int .i64 (val 126), .int .i64 (val 127), .int .i64 (val 128), .int .i64 (val 129), .int .i64 (val 130)]] (.int .i64 (val 132))

abbrev argT2 : List (FuncId × List AV × AV) := [(26, [.agg row2], a 131), (43, [.agg row2], a 131), (29, [.agg row2], a 132), (42, [.agg row2], a 132)]

def ImmH2 (val : Nat → Int) : Prop := Ret Try.prog 27 [.int .i64 (val 130), .int .i64 (val 5), .bool (val 6 == 1)] (.tuple #[.int .i64 (val 152), .int .i64 (val 151)]) ∧ Ret Try.prog 37 [.int .i64 (val 130), .int .i64 (val 5), .bool (val 6 == 1)] (.tuple #[.int .i64 (val 152), .int .i64 (val 151)])

abbrev immT2 : List (FuncId × List AV × AV) := [(27, [a 130, a 5, bo 6], .tup [a 152, a 151]), (37, [a 130, a 5, bo 6], .tup [a 152, a 151])]

abbrev immT2z : List (FuncId × List AV × AV) := [(27, [a 130, ci 0, bo 6], .tup [ci 0, ci 2]), (37, [a 130, ci 0, bo 6], .tup [ci 0, ci 2])]

abbrev can2 : AV := .tup [.agg [a 120, a 141, a 142, a 143, a 144, a 145, a 146, a 147, a 148, a 149, a 150], ci 0]

def CanH2 (val : Nat → Int) : Prop := Ret Try.prog 32 [.agg #[.int .i64 (val 120), .int .i64 (val 121), .int .i64 (val 122), .int .i64 (val 123), .int .i64 (val 124), .int .i64 (val 125), .int .i64 (val 126), .int .i64 (val 127), .int .i64 (val 128), .int .i64 (val 129), .int .i64 (val 130)]] (.tuple #[.agg #[.int .i64 (val 120), .int .i64 (val 141), .int .i64 (val 142), .int .i64 (val 143), .int .i64 (val 144), .int .i64 (val 145), .int .i64 (val 146), .int .i64 (val 147), .int .i64 (val 148), .int .i64 (val 149), .int .i64 (val 150)], .int .i64 0]) ∧ Ret Try.prog 36 [.agg #[.int .i64 (val 120), .int .i64 (val 121), .int .i64 (val 122), .int .i64 (val 123), .int .i64 (val 124), .int .i64 (val 125), .int .i64 (val 126), .int .i64 (val 127), .int .i64 (val 128), .int .i64 (val 129), .int .i64 (val 130)]] (.tuple #[.agg #[.int .i64 (val 120), .int .i64 (val 141), .int .i64 (val 142), .int .i64 (val 143), .int .i64 (val 144), .int .i64 (val 145), .int .i64 (val 146), .int .i64 (val 147), .int .i64 (val 148), .int .i64 (val 149), .int .i64 (val 150)], .int .i64 0])

abbrev canT2 : List (FuncId × List AV × AV) := [(32, [.agg row2], can2), (36, [.agg row2], can2)]

abbrev can2i : AV := .tup [.agg [a 120, a 141, a 142, a 143, a 144, a 145, a 146, a 147, a 148, a 149, a 130], ci 0]

def CanH2i (val : Nat → Int) : Prop := Ret Try.prog 32 [.agg #[.int .i64 (val 120), .int .i64 (val 121), .int .i64 (val 122), .int .i64 (val 123), .int .i64 (val 124), .int .i64 (val 125), .int .i64 (val 126), .int .i64 (val 127), .int .i64 (val 128), .int .i64 (val 129), .int .i64 (val 130)]] (.tuple #[.agg #[.int .i64 (val 120), .int .i64 (val 141), .int .i64 (val 142), .int .i64 (val 143), .int .i64 (val 144), .int .i64 (val 145), .int .i64 (val 146), .int .i64 (val 147), .int .i64 (val 148), .int .i64 (val 149), .int .i64 (val 130)], .int .i64 0]) ∧ Ret Try.prog 36 [.agg #[.int .i64 (val 120), .int .i64 (val 121), .int .i64 (val 122), .int .i64 (val 123), .int .i64 (val 124), .int .i64 (val 125), .int .i64 (val 126), .int .i64 (val 127), .int .i64 (val 128), .int .i64 (val 129), .int .i64 (val 130)]] (.tuple #[.agg #[.int .i64 (val 120), .int .i64 (val 141), .int .i64 (val 142), .int .i64 (val 143), .int .i64 (val 144), .int .i64 (val 145), .int .i64 (val 146), .int .i64 (val 147), .int .i64 (val 148), .int .i64 (val 149), .int .i64 (val 130)], .int .i64 0]) ∧ Ret Try.prog 27 [.int .i64 (val 130), .int .i64 (val 5), .bool (val 6 == 1)] (.tuple #[.int .i64 (val 152), .int .i64 0]) ∧ Ret Try.prog 37 [.int .i64 (val 130), .int .i64 (val 5), .bool (val 6 == 1)] (.tuple #[.int .i64 (val 152), .int .i64 0])

abbrev canT2i : List (FuncId × List AV × AV) := [(32, [.agg row2], can2i), (36, [.agg row2], can2i), (27, [a 130, a 5, bo 6], .tup [a 152, ci 0]), (37, [a 130, a 5, bo 6], .tup [a 152, ci 0])]

abbrev row3 : List AV := [a 160, a 161, a 162, a 163, a 164, a 165, a 166, a 167, a 168, a 169, a 170]

def ArgH3 (val : Nat → Int) : Prop := Ret Try.prog 26 [.agg #[.int .i64 (val 160), .int .i64 (val 161), .int .i64 (val 162), .int .i64 (val 163), .int .i64 (val 164), .int .i64 (val 165), .int .i64 (val 166), .int .i64 (val 167), .int .i64 (val 168), .int .i64 (val 169), .int .i64 (val 170)]] (.int .i64 (val 171)) ∧ Ret Try.prog 43 [.agg #[.int .i64 (val 160), .int .i64 (val 161), .int .i64 (val 162), .int .i64 (val 163), .int .i64 (val 164), .int .i64 (val 165), .int .i64 (val 166), .int .i64 (val 167), .int .i64 (val 168), .int .i64 (val 169), .int .i64 (val 170)]] (.int .i64 (val 171)) ∧ Ret Try.prog 29 [.agg #[.int .i64 (val 160), .int .i64 (val 161), .int .i64 (val 162), .int .i64 (val 163), .int .i64 (val 164), .int .i64 (val 165), .int .i64 (val 166), .int .i64 (val 167), .int .i64 (val 168), .int .i64 (val 169), .int .i64 (val 170)]] (.int .i64 (val 172)) ∧ Ret Try.prog 42 [.agg #[.int .i64 (val 160), .int .i64 (val 161), .int .i64 (val 162), .int .i64 (val 163), .int .i64 (val 164), .int .i64 (val 165), .int .i64 (val 166), .int .i64 (val 167), .int .i64 (val 168), .int .i64 (val 169), .int .i64 (val 170)]] (.int .i64 (val 172))

abbrev argT3 : List (FuncId × List AV × AV) := [(26, [.agg row3], a 171), (43, [.agg row3], a 171), (29, [.agg row3], a 172), (42, [.agg row3], a 172)]

def ImmH3 (val : Nat → Int) : Prop := Ret Try.prog 27 [.int .i64 (val 170), .int .i64 (val 5), .bool (val 6 == 1)] (.tuple #[.int .i64 (val 192), .int .i64 (val 191)]) ∧ Ret Try.prog 37 [.int .i64 (val 170), .int .i64 (val 5), .bool (val 6 == 1)] (.tuple #[.int .i64 (val 192), .int .i64 (val 191)])

abbrev immT3 : List (FuncId × List AV × AV) := [(27, [a 170, a 5, bo 6], .tup [a 192, a 191]), (37, [a 170, a 5, bo 6], .tup [a 192, a 191])]

abbrev immT3z : List (FuncId × List AV × AV) := [(27, [a 170, ci 0, bo 6], .tup [ci 0, ci 2]), (37, [a 170, ci 0, bo 6], .tup [ci 0, ci 2])]

abbrev can3 : AV := .tup [.agg [a 160, a 181, a 182, a 183, a 184, a 185, a 186, a 187, a 188, a 189, a 190], ci 0]

def CanH3 (val : Nat → Int) : Prop := Ret Try.prog 32 [.agg #[.int .i64 (val 160), .int .i64 (val 161), .int .i64 (val 162), .int .i64 (val 163), .int .i64 (val 164), .int .i64 (val 165), .int .i64 (val 166), .int .i64 (val 167), .int .i64 (val 168), .int .i64 (val 169), .int .i64 (val 170)]] (.tuple #[.agg #[.int .i64 (val 160), .int .i64 (val 181), .int .i64 (val 182), .int .i64 (val 183), .int .i64 (val 184), .int .i64 (val 185), .int .i64 (val 186), .int .i64 (val 187), .int .i64 (val 188), .int .i64 (val 189), .int .i64 (val 190)], .int .i64 0]) ∧ Ret Try.prog 36 [.agg #[.int .i64 (val 160), .int .i64 (val 161), .int .i64 (val 162), .int .i64 (val 163), .int .i64 (val 164), .int .i64 (val 165), .int .i64 (val 166), .int .i64 (val 167), .int .i64 (val 168), .int .i64 (val 169), .int .i64 (val 170)]] (.tuple #[.agg #[.int .i64 (val 160), .int .i64 (val 181), .int .i64 (val 182), .int .i64 (val 183), .int .i64 (val 184), .int .i64 (val 185), .int .i64 (val 186), .int .i64 (val 187), .int .i64 (val 188), .int .i64 (val 189), .int .i64 (val 190)], .int .i64 0])

abbrev canT3 : List (FuncId × List AV × AV) := [(32, [.agg row3], can3), (36, [.agg row3], can3)]

abbrev can3i : AV := .tup [.agg [a 160, a 181, a 182, a 183, a 184, a 185, a 186, a 187, a 188, a 189, a 170], ci 0]

def CanH3i (val : Nat → Int) : Prop := Ret Try.prog 32 [.agg #[.int .i64 (val 160), .int .i64 (val 161), .int .i64 (val 162), .int .i64 (val 163), .int .i64 (val 164), .int .i64 (val 165), .int .i64 (val 166), .int .i64 (val 167), .int .i64 (val 168), .int .i64 (val 169), .int .i64 (val 170)]] (.tuple #[.agg #[.int .i64 (val 160), .int .i64 (val 181), .int .i64 (val 182), .int .i64 (val 183), .int .i64 (val 184), .int .i64 (val 185), .int .i64 (val 186), .int .i64 (val 187), .int .i64 (val 188), .int .i64 (val 189), .int .i64 (val 170)], .int .i64 0]) ∧ Ret Try.prog 36 [.agg #[.int .i64 (val 160), .int .i64 (val 161), .int .i64 (val 162), .int .i64 (val 163), .int .i64 (val 164), .int .i64 (val 165), .int .i64 (val 166), .int .i64 (val 167), .int .i64 (val 168), .int .i64 (val 169), .int .i64 (val 170)]] (.tuple #[.agg #[.int .i64 (val 160), .int .i64 (val 181), .int .i64 (val 182), .int .i64 (val 183), .int .i64 (val 184), .int .i64 (val 185), .int .i64 (val 186), .int .i64 (val 187), .int .i64 (val 188), .int .i64 (val 189), .int .i64 (val 170)], .int .i64 0]) ∧ Ret Try.prog 27 [.int .i64 (val 170), .int .i64 (val 5), .bool (val 6 == 1)] (.tuple #[.int .i64 (val 192), .int .i64 0]) ∧ Ret Try.prog 37 [.int .i64 (val 170), .int .i64 (val 5), .bool (val 6 == 1)] (.tuple #[.int .i64 (val 192), .int .i64 0])

abbrev canT3i : List (FuncId × List AV × AV) := [(32, [.agg row3], can3i), (36, [.agg row3], can3i), (27, [a 170, a 5, bo 6], .tup [a 192, ci 0]), (37, [a 170, a 5, bo 6], .tup [a 192, ci 0])]

abbrev BitsQ0 (val : Nat → Int) : Prop := NameH val → QC Try.prog GZ 39 0 [] [(12, [instN], [.i 0, .b 1]), (18, [instN], [.i 0, .b 1]), (12, [instE], [.i 0, .b 1]), (18, [instE], [.i 0, .b 1])] 2 (fun _ => True) val

theorem bl0 {val : Nat → Int} {F : List Fact} (h : Holds val F) (Y : List SX) (hc : bAnd (F.all (noF 39)) (bAnd (Y.all (noA 39)) (Nat.beq Y.length 2)) = true)
    (hg : ∀ (v : Nat → Int) (hG : Holds v (F ++ [.ge (.a 39) 0])) (ad : Addr) (cap : Nat), @givesO (symsOf v _ hG fun _ => (some ad, cap)) Try.prog (orElse (tabO nameT) (@mTab (symsOf v _ hG fun _ => (some ad, cap)) [])) 1000 [] Y [(12, [instN], [.i 0, .b 1]), (18, [instN], [.i 0, .b 1]), (12, [instE], [.i 0, .b 1]), (18, [instE], [.i 0, .b 1])] = true) : BitsQ0 val :=
  fun hN => leafQC (tab := nameT) (me := []) h Y (fun _ => .tt) mixK (by kernel_rfl) (by intro x hx; simp only [List.mem_cons, List.not_mem_nil, or_false] at hx; rcases hx with rfl | rfl | rfl | rfl <;> first | exact wfZ true | exact wfZ false) (by kernel_rfl) (by kernel_rfl) (by kernel_rfl) (fun c sla _ _ => ⟨(tCons hN.1 (tCons hN.2.1 (tCons hN.2.2.1 (tCons hN.2.2.2 tNil)))), mNil⟩) (bAnd_true hc).1 (bAnd_true (bAnd_true hc).2).1 (Nat.eq_of_beq_eq_true (bAnd_true (bAnd_true hc).2).2) rfl (fun _ => trivial) (fun v hG sla hs => by obtain ⟨ad, cap, rfl⟩ := hs; exact hg v hG ad cap)

def PhiC0 (_ : Nat → Int) (Y : List Int) : Prop := Y.getD 0 0 = 0 → True

noncomputable abbrev phiC0 (Y : List SX) : SB := .or (.not (.eq (Y.getD 0 (.c 0)) (.c 0))) .tt

theorem phiC0_holds {val : Nat → Int} {Y : List SX} (_h : (phiC0 Y).eval val = true) : PhiC0 val (Y.map (SX.eval val)) := by
  intro _
  trivial

abbrev CheckQ0 (val : Nat → Int) : Prop := ∀ op zs, NmN val op zs 0 → NameH val → BitsR val op zs → QC Try.prog GZ 39 0 [] [(11, [instN], [.i 0]), (19, [instN], [.i 0]), (11, [instE], [.i 0]), (19, [instE], [.i 0])] 1 (PhiC0 val) val

theorem cl0 {val : Nat → Int} {F : List Fact} (h : Holds val F) (Y : List SX) (hc : bAnd (F.all (noF 39)) (bAnd (Y.all (noA 39)) (bAnd (Nat.beq Y.length 1) (isTrue (decF F (phiC0 Y))))) = true)
    (hg : ∀ (v : Nat → Int) (hG : Holds v (F ++ [.ge (.a 39) 0])) (ad : Addr) (cap : Nat), @givesO (symsOf v _ hG fun _ => (some ad, cap)) Try.prog (orElse (tabO nameT) (@mTab (symsOf v _ hG fun _ => (some ad, cap)) (bitsM false patN ++ bitsM false patE))) 1000 [] Y [(11, [instN], [.i 0]), (19, [instN], [.i 0]), (11, [instE], [.i 0]), (19, [instE], [.i 0])] = true) : CheckQ0 val :=
  fun op zs hm hN hB => by
    obtain rfl : zs = [] := by have := hm.2.1; simpa using this
    exact leafQC (tab := nameT) (me := (bitsM false patN ++ bitsM false patE)) h Y phiC0 mixK (by kernel_rfl) (by intro x hx; simp only [List.mem_cons, List.not_mem_nil, or_false] at hx; rcases hx with rfl | rfl | rfl | rfl <;> first | exact wfZ true | exact wfZ false) (by kernel_rfl) (by kernel_rfl) (by kernel_rfl) (fun c sla _ _ => ⟨(tCons hN.1 (tCons hN.2.1 (tCons hN.2.2.1 (tCons hN.2.2.2 tNil)))), (mCons (me_of (op := op) (zs := []) (fun w vs hv => let ⟨x, q1, q2, _⟩ := patN_of (nm_upd hm 39 (by omega) c).1 hv; ⟨x, q1, q2⟩) rfl hB.1) (mCons (me_of (op := op) (zs := []) (fun w vs hv => let ⟨x, q1, q2, _⟩ := patN_of (nm_upd hm 39 (by omega) c).1 hv; ⟨x, q1, q2⟩) rfl hB.2) (mCons (me_of (op := op) (zs := []) (fun w vs hv => let ⟨x, q1, q2, _⟩ := patE_of (nm_upd hm 39 (by omega) c).1 hv; ⟨x, q1, q2⟩) rfl hB.1) (mCons (me_of (op := op) (zs := []) (fun w vs hv => let ⟨x, q1, q2, _⟩ := patE_of (nm_upd hm 39 (by omega) c).1 hv; ⟨x, q1, q2⟩) rfl hB.2) mNil))))⟩) (bAnd_true hc).1 (bAnd_true (bAnd_true hc).2).1 (Nat.eq_of_beq_eq_true (bAnd_true (bAnd_true (bAnd_true hc).2).2).1) (bAnd_true (bAnd_true (bAnd_true hc).2).2).2 phiC0_holds (fun v hG sla hs => by obtain ⟨ad, cap, rfl⟩ := hs; exact hg v hG ad cap)

abbrev CheckQ0z (val : Nat → Int) : Prop := ∀ op zs, NmN val op zs 0 → NameH val → ImmZ → val 5 = 0 → BitsR val op zs → QC Try.prog GZ 39 0 [] [(11, [instN], [.i 0]), (19, [instN], [.i 0]), (11, [instE], [.i 0]), (19, [instE], [.i 0])] 1 (PhiC0 val) val

theorem cl0z {val : Nat → Int} {F : List Fact} (h : Holds val F) (Y : List SX) (hc : bAnd (F.all (noF 39)) (bAnd (Y.all (noA 39)) (bAnd (Nat.beq Y.length 1) (isTrue (decF F (phiC0 Y))))) = true)
    (hg : ∀ (v : Nat → Int) (hG : Holds v (F ++ [.ge (.a 39) 0])) (ad : Addr) (cap : Nat), @givesO (symsOf v _ hG fun _ => (some ad, cap)) Try.prog (orElse (tabO nameT) (@mTab (symsOf v _ hG fun _ => (some ad, cap)) (bitsM true patN ++ bitsM true patE))) 1000 [] Y [(11, [instN], [.i 0]), (19, [instN], [.i 0]), (11, [instE], [.i 0]), (19, [instE], [.i 0])] = true) : CheckQ0z val :=
  fun op zs hm hN _ hb0 hB => by
    obtain rfl : zs = [] := by have := hm.2.1; simpa using this
    exact leafQC (tab := nameT) (me := (bitsM true patN ++ bitsM true patE)) h Y phiC0 mixK (by kernel_rfl) (by intro x hx; simp only [List.mem_cons, List.not_mem_nil, or_false] at hx; rcases hx with rfl | rfl | rfl | rfl <;> first | exact wfZ true | exact wfZ false) (by kernel_rfl) (by kernel_rfl) (by kernel_rfl) (fun c sla _ _ => ⟨(tCons hN.1 (tCons hN.2.1 (tCons hN.2.2.1 (tCons hN.2.2.2 tNil)))), (mCons (me_of (op := op) (zs := []) (fun w vs hv => let ⟨x, q1, q2, _⟩ := patN_of (nm_upd hm 39 (by omega) c).1 hv; ⟨x, q1, q2⟩) rfl (by have := hB.1; rw [hb0] at this; exact this)) (mCons (me_of (op := op) (zs := []) (fun w vs hv => let ⟨x, q1, q2, _⟩ := patN_of (nm_upd hm 39 (by omega) c).1 hv; ⟨x, q1, q2⟩) rfl (by have := hB.2; rw [hb0] at this; exact this)) (mCons (me_of (op := op) (zs := []) (fun w vs hv => let ⟨x, q1, q2, _⟩ := patE_of (nm_upd hm 39 (by omega) c).1 hv; ⟨x, q1, q2⟩) rfl (by have := hB.1; rw [hb0] at this; exact this)) (mCons (me_of (op := op) (zs := []) (fun w vs hv => let ⟨x, q1, q2, _⟩ := patE_of (nm_upd hm 39 (by omega) c).1 hv; ⟨x, q1, q2⟩) rfl (by have := hB.2; rw [hb0] at this; exact this)) mNil))))⟩) (bAnd_true hc).1 (bAnd_true (bAnd_true hc).2).1 (Nat.eq_of_beq_eq_true (bAnd_true (bAnd_true (bAnd_true hc).2).2).1) (bAnd_true (bAnd_true (bAnd_true hc).2).2).2 phiC0_holds (fun v hG sla hs => by obtain ⟨ad, cap, rfl⟩ := hs; exact hg v hG ad cap)

abbrev BitsQ1 (val : Nat → Int) : Prop := NameH val → ArgH0 val → QC Try.prog G1 1 1 (outs 1) [(12, [inst 1], [.i 0, .b 1]), (18, [inst 1], [.i 0, .b 1])] 2 (fun _ => True) val

theorem bl1 {val : Nat → Int} {F : List Fact} (h : Holds val F) (Y : List SX) (hc : bAnd (F.all (noF 1)) (bAnd (Y.all (noA 1)) (Nat.beq Y.length 2)) = true)
    (hg : ∀ (v : Nat → Int) (hG : Holds v (F ++ [.ge (.a 1) 1])), @givesO (symsOf v _ hG sl0) Try.prog (orElse (tabO (nameT ++ argT0)) (@mTab (symsOf v _ hG sl0) [])) 1000 (outs 1) Y [(12, [inst 1], [.i 0, .b 1]), (18, [inst 1], [.i 0, .b 1])] = true) : BitsQ1 val :=
  fun hN h0 => leafQC (tab := (nameT ++ argT0)) (me := []) h Y (fun _ => .tt) mixK (by kernel_rfl) (by intro x hx; simp only [List.mem_cons, List.not_mem_nil, or_false] at hx; rcases hx with rfl | rfl <;> exact wfN 1) (by kernel_rfl) (by kernel_rfl) (by kernel_rfl) (fun c sla _ _ => ⟨(tCons hN.1 (tCons hN.2.1 (tCons hN.2.2.1 (tCons hN.2.2.2 (tCons h0.1 (tCons h0.2.1 (tCons h0.2.2.1 (tCons h0.2.2.2 tNil)))))))), mNil⟩) (bAnd_true hc).1 (bAnd_true (bAnd_true hc).2).1 (Nat.eq_of_beq_eq_true (bAnd_true (bAnd_true hc).2).2) rfl (fun _ => trivial) (fun v hG sla hs => by subst hs; exact hg v hG)

def PhiC1 (val : Nat → Int) (Y : List Int) : Prop := Y.getD 0 0 = 0 → (val 51 = 0 ∧ (val 40 = 3 → val 71 = 0))

noncomputable abbrev phiC1 (Y : List SX) : SB := .or (.not (.eq (Y.getD 0 (.c 0)) (.c 0))) (.and (.eq (.a 51) (.c 0)) (.or (.not (.eq (.a 40) (.c 3))) (.eq (.a 71) (.c 0))))

theorem phiC1_holds {val : Nat → Int} {Y : List SX} (h : (phiC1 Y).eval val = true) : PhiC1 val (Y.map (SX.eval val)) := by
  intro h0
  simp only [SB.eval, getD_map_eval, SX.eval, Bool.or_eq_true, Bool.and_eq_true, Bool.not_eq_true', beq_eq_false_iff_ne, ne_eq, beq_iff_eq] at h
  rcases h with h | h
  · exact absurd h0 h
  · obtain ⟨p0, q0⟩ := h
    exact ⟨p0, fun e => q0.resolve_left fun q => q e⟩

abbrev CheckQ1 (val : Nat → Int) : Prop := ∀ op zs, NmN val op zs 1 → NameH val → ArgH0 val → ImmH0 val → BitsR val op zs → QC Try.prog G1 1 1 (outs 1) [(11, [inst 1], [.i 0]), (19, [inst 1], [.i 0])] 1 (PhiC1 val) val

theorem cl1 {val : Nat → Int} {F : List Fact} (h : Holds val F) (Y : List SX) (hc : bAnd (F.all (noF 1)) (bAnd (Y.all (noA 1)) (bAnd (Nat.beq Y.length 1) (isTrue (decF F (phiC1 Y))))) = true)
    (hg : ∀ (v : Nat → Int) (hG : Holds v (F ++ [.ge (.a 1) 1])), @givesO (symsOf v _ hG sl0) Try.prog (orElse (tabO (nameT ++ (argT0 ++ immT0))) (@mTab (symsOf v _ hG sl0) (bitsM false (pat 1)))) 1000 (outs 1) Y [(11, [inst 1], [.i 0]), (19, [inst 1], [.i 0])] = true) : CheckQ1 val :=
  fun op zs hm hN h0 i0 hB => leafQC (tab := (nameT ++ (argT0 ++ immT0))) (me := (bitsM false (pat 1))) h Y phiC1 mixK (by kernel_rfl) (by intro x hx; simp only [List.mem_cons, List.not_mem_nil, or_false] at hx; rcases hx with rfl | rfl <;> exact wfN 1) (by kernel_rfl) (by kernel_rfl) (by kernel_rfl) (fun c sla _ _ => ⟨(tCons hN.1 (tCons hN.2.1 (tCons hN.2.2.1 (tCons hN.2.2.2 (tCons h0.1 (tCons h0.2.1 (tCons h0.2.2.1 (tCons h0.2.2.2 (tCons i0.1 (tCons i0.2 tNil)))))))))), (mCons (me_of (op := op) (zs := zs) (fun w vs hv => pat_of (by omega) (nm_upd hm 1 (by omega) c) hv) rfl hB.1) (mCons (me_of (op := op) (zs := zs) (fun w vs hv => pat_of (by omega) (nm_upd hm 1 (by omega) c) hv) rfl hB.2) mNil))⟩) (bAnd_true hc).1 (bAnd_true (bAnd_true hc).2).1 (Nat.eq_of_beq_eq_true (bAnd_true (bAnd_true (bAnd_true hc).2).2).1) (bAnd_true (bAnd_true (bAnd_true hc).2).2).2 phiC1_holds (fun v hG sla hs => by subst hs; exact hg v hG)

abbrev CheckQ1z (val : Nat → Int) : Prop := ∀ op zs, NmN val op zs 1 → NameH val → ArgH0 val → ImmZ → val 5 = 0 → BitsR val op zs → QC Try.prog G1 1 1 (outs 1) [(11, [inst 1], [.i 0]), (19, [inst 1], [.i 0])] 1 (PhiC1 val) val

theorem cl1z {val : Nat → Int} {F : List Fact} (h : Holds val F) (Y : List SX) (hc : bAnd (F.all (noF 1)) (bAnd (Y.all (noA 1)) (bAnd (Nat.beq Y.length 1) (isTrue (decF F (phiC1 Y))))) = true)
    (hg : ∀ (v : Nat → Int) (hG : Holds v (F ++ [.ge (.a 1) 1])), @givesO (symsOf v _ hG sl0) Try.prog (orElse (tabO (nameT ++ (argT0 ++ immT0z))) (@mTab (symsOf v _ hG sl0) (bitsM true (pat 1)))) 1000 (outs 1) Y [(11, [inst 1], [.i 0]), (19, [inst 1], [.i 0])] = true) : CheckQ1z val :=
  fun op zs hm hN h0 hI hb0 hB => leafQC (tab := (nameT ++ (argT0 ++ immT0z))) (me := (bitsM true (pat 1))) h Y phiC1 mixK (by kernel_rfl) (by intro x hx; simp only [List.mem_cons, List.not_mem_nil, or_false] at hx; rcases hx with rfl | rfl <;> exact wfN 1) (by kernel_rfl) (by kernel_rfl) (by kernel_rfl) (fun c sla _ _ => ⟨(tCons hN.1 (tCons hN.2.1 (tCons hN.2.2.1 (tCons hN.2.2.2 (tCons h0.1 (tCons h0.2.1 (tCons h0.2.2.1 (tCons h0.2.2.2 (tCons (hI _ _).1 (tCons (hI _ _).2 tNil)))))))))), (mCons (me_of (op := op) (zs := zs) (fun w vs hv => pat_of (by omega) (nm_upd hm 1 (by omega) c) hv) rfl (by have := hB.1; rw [hb0] at this; exact this)) (mCons (me_of (op := op) (zs := zs) (fun w vs hv => pat_of (by omega) (nm_upd hm 1 (by omega) c) hv) rfl (by have := hB.2; rw [hb0] at this; exact this)) mNil))⟩) (bAnd_true hc).1 (bAnd_true (bAnd_true hc).2).1 (Nat.eq_of_beq_eq_true (bAnd_true (bAnd_true (bAnd_true hc).2).2).1) (bAnd_true (bAnd_true (bAnd_true hc).2).2).2 phiC1_holds (fun v hG sla hs => by subst hs; exact hg v hG)

abbrev BitsQ2 (val : Nat → Int) : Prop := NameH val → ArgH0 val → QC Try.prog G1 1 2 (outs 2) [(12, [inst 2], [.i 0, .b 1]), (18, [inst 2], [.i 0, .b 1])] 2 (fun _ => True) val

theorem bl2 {val : Nat → Int} {F : List Fact} (h : Holds val F) (Y : List SX) (hc : bAnd (F.all (noF 1)) (bAnd (Y.all (noA 1)) (Nat.beq Y.length 2)) = true)
    (hg : ∀ (v : Nat → Int) (hG : Holds v (F ++ [.ge (.a 1) 2])), @givesO (symsOf v _ hG sl0) Try.prog (orElse (tabO (nameT ++ argT0)) (@mTab (symsOf v _ hG sl0) [])) 1000 (outs 2) Y [(12, [inst 2], [.i 0, .b 1]), (18, [inst 2], [.i 0, .b 1])] = true) : BitsQ2 val :=
  fun hN h0 => leafQC (tab := (nameT ++ argT0)) (me := []) h Y (fun _ => .tt) mixK (by kernel_rfl) (by intro x hx; simp only [List.mem_cons, List.not_mem_nil, or_false] at hx; rcases hx with rfl | rfl <;> exact wfN 2) (by kernel_rfl) (by kernel_rfl) (by kernel_rfl) (fun c sla _ _ => ⟨(tCons hN.1 (tCons hN.2.1 (tCons hN.2.2.1 (tCons hN.2.2.2 (tCons h0.1 (tCons h0.2.1 (tCons h0.2.2.1 (tCons h0.2.2.2 tNil)))))))), mNil⟩) (bAnd_true hc).1 (bAnd_true (bAnd_true hc).2).1 (Nat.eq_of_beq_eq_true (bAnd_true (bAnd_true hc).2).2) rfl (fun _ => trivial) (fun v hG sla hs => by subst hs; exact hg v hG)

def PhiC2 (val : Nat → Int) (Y : List Int) : Prop := Y.getD 0 0 = 0 → (val 51 = 0 ∧ (val 40 = 3 → val 71 = 0)) ∧ (val 91 = 0 ∧ (val 80 = 3 → val 111 = 0))

noncomputable abbrev phiC2 (Y : List SX) : SB := .or (.not (.eq (Y.getD 0 (.c 0)) (.c 0))) (.and (.and (.eq (.a 51) (.c 0)) (.or (.not (.eq (.a 40) (.c 3))) (.eq (.a 71) (.c 0)))) (.and (.eq (.a 91) (.c 0)) (.or (.not (.eq (.a 80) (.c 3))) (.eq (.a 111) (.c 0)))))

theorem phiC2_holds {val : Nat → Int} {Y : List SX} (h : (phiC2 Y).eval val = true) : PhiC2 val (Y.map (SX.eval val)) := by
  intro h0
  simp only [SB.eval, getD_map_eval, SX.eval, Bool.or_eq_true, Bool.and_eq_true, Bool.not_eq_true', beq_eq_false_iff_ne, ne_eq, beq_iff_eq] at h
  rcases h with h | h
  · exact absurd h0 h
  · obtain ⟨⟨p0, q0⟩, ⟨p1, q1⟩⟩ := h
    exact ⟨⟨p0, fun e => q0.resolve_left fun q => q e⟩, ⟨p1, fun e => q1.resolve_left fun q => q e⟩⟩

abbrev CheckQ2 (val : Nat → Int) : Prop := ∀ op zs, NmN val op zs 2 → NameH val → ArgH0 val → ArgH1 val → ImmH0 val → ImmH1 val → BitsR val op zs → QC Try.prog G1 1 2 (outs 2) [(11, [inst 2], [.i 0]), (19, [inst 2], [.i 0])] 1 (PhiC2 val) val

theorem cl2 {val : Nat → Int} {F : List Fact} (h : Holds val F) (Y : List SX) (hc : bAnd (F.all (noF 1)) (bAnd (Y.all (noA 1)) (bAnd (Nat.beq Y.length 1) (isTrue (decF F (phiC2 Y))))) = true)
    (hg : ∀ (v : Nat → Int) (hG : Holds v (F ++ [.ge (.a 1) 2])), @givesO (symsOf v _ hG sl0) Try.prog (orElse (tabO (nameT ++ (argT0 ++ immT0) ++ (argT1 ++ immT1))) (@mTab (symsOf v _ hG sl0) (bitsM false (pat 2)))) 1000 (outs 2) Y [(11, [inst 2], [.i 0]), (19, [inst 2], [.i 0])] = true) : CheckQ2 val :=
  fun op zs hm hN h0 h1 i0 i1 hB => leafQC (tab := (nameT ++ (argT0 ++ immT0) ++ (argT1 ++ immT1))) (me := (bitsM false (pat 2))) h Y phiC2 mixK (by kernel_rfl) (by intro x hx; simp only [List.mem_cons, List.not_mem_nil, or_false] at hx; rcases hx with rfl | rfl <;> exact wfN 2) (by kernel_rfl) (by kernel_rfl) (by kernel_rfl) (fun c sla _ _ => ⟨(tCons hN.1 (tCons hN.2.1 (tCons hN.2.2.1 (tCons hN.2.2.2 (tCons h0.1 (tCons h0.2.1 (tCons h0.2.2.1 (tCons h0.2.2.2 (tCons i0.1 (tCons i0.2 (tCons h1.1 (tCons h1.2.1 (tCons h1.2.2.1 (tCons h1.2.2.2 (tCons i1.1 (tCons i1.2 tNil)))))))))))))))), (mCons (me_of (op := op) (zs := zs) (fun w vs hv => pat_of (by omega) (nm_upd hm 1 (by omega) c) hv) rfl hB.1) (mCons (me_of (op := op) (zs := zs) (fun w vs hv => pat_of (by omega) (nm_upd hm 1 (by omega) c) hv) rfl hB.2) mNil))⟩) (bAnd_true hc).1 (bAnd_true (bAnd_true hc).2).1 (Nat.eq_of_beq_eq_true (bAnd_true (bAnd_true (bAnd_true hc).2).2).1) (bAnd_true (bAnd_true (bAnd_true hc).2).2).2 phiC2_holds (fun v hG sla hs => by subst hs; exact hg v hG)

abbrev CheckQ2z (val : Nat → Int) : Prop := ∀ op zs, NmN val op zs 2 → NameH val → ArgH0 val → ArgH1 val → ImmZ → val 5 = 0 → BitsR val op zs → QC Try.prog G1 1 2 (outs 2) [(11, [inst 2], [.i 0]), (19, [inst 2], [.i 0])] 1 (PhiC2 val) val

theorem cl2z {val : Nat → Int} {F : List Fact} (h : Holds val F) (Y : List SX) (hc : bAnd (F.all (noF 1)) (bAnd (Y.all (noA 1)) (bAnd (Nat.beq Y.length 1) (isTrue (decF F (phiC2 Y))))) = true)
    (hg : ∀ (v : Nat → Int) (hG : Holds v (F ++ [.ge (.a 1) 2])), @givesO (symsOf v _ hG sl0) Try.prog (orElse (tabO (nameT ++ (argT0 ++ immT0z) ++ (argT1 ++ immT1z))) (@mTab (symsOf v _ hG sl0) (bitsM true (pat 2)))) 1000 (outs 2) Y [(11, [inst 2], [.i 0]), (19, [inst 2], [.i 0])] = true) : CheckQ2z val :=
  fun op zs hm hN h0 h1 hI hb0 hB => leafQC (tab := (nameT ++ (argT0 ++ immT0z) ++ (argT1 ++ immT1z))) (me := (bitsM true (pat 2))) h Y phiC2 mixK (by kernel_rfl) (by intro x hx; simp only [List.mem_cons, List.not_mem_nil, or_false] at hx; rcases hx with rfl | rfl <;> exact wfN 2) (by kernel_rfl) (by kernel_rfl) (by kernel_rfl) (fun c sla _ _ => ⟨(tCons hN.1 (tCons hN.2.1 (tCons hN.2.2.1 (tCons hN.2.2.2 (tCons h0.1 (tCons h0.2.1 (tCons h0.2.2.1 (tCons h0.2.2.2 (tCons (hI _ _).1 (tCons (hI _ _).2 (tCons h1.1 (tCons h1.2.1 (tCons h1.2.2.1 (tCons h1.2.2.2 (tCons (hI _ _).1 (tCons (hI _ _).2 tNil)))))))))))))))), (mCons (me_of (op := op) (zs := zs) (fun w vs hv => pat_of (by omega) (nm_upd hm 1 (by omega) c) hv) rfl (by have := hB.1; rw [hb0] at this; exact this)) (mCons (me_of (op := op) (zs := zs) (fun w vs hv => pat_of (by omega) (nm_upd hm 1 (by omega) c) hv) rfl (by have := hB.2; rw [hb0] at this; exact this)) mNil))⟩) (bAnd_true hc).1 (bAnd_true (bAnd_true hc).2).1 (Nat.eq_of_beq_eq_true (bAnd_true (bAnd_true (bAnd_true hc).2).2).1) (bAnd_true (bAnd_true (bAnd_true hc).2).2).2 phiC2_holds (fun v hG sla hs => by subst hs; exact hg v hG)

abbrev BitsQ3 (val : Nat → Int) : Prop := NameH val → ArgH0 val → QC Try.prog G1 1 3 (outs 3) [(12, [inst 3], [.i 0, .b 1]), (18, [inst 3], [.i 0, .b 1])] 2 (fun _ => True) val

theorem bl3 {val : Nat → Int} {F : List Fact} (h : Holds val F) (Y : List SX) (hc : bAnd (F.all (noF 1)) (bAnd (Y.all (noA 1)) (Nat.beq Y.length 2)) = true)
    (hg : ∀ (v : Nat → Int) (hG : Holds v (F ++ [.ge (.a 1) 3])), @givesO (symsOf v _ hG sl0) Try.prog (orElse (tabO (nameT ++ argT0)) (@mTab (symsOf v _ hG sl0) [])) 1000 (outs 3) Y [(12, [inst 3], [.i 0, .b 1]), (18, [inst 3], [.i 0, .b 1])] = true) : BitsQ3 val :=
  fun hN h0 => leafQC (tab := (nameT ++ argT0)) (me := []) h Y (fun _ => .tt) mixK (by kernel_rfl) (by intro x hx; simp only [List.mem_cons, List.not_mem_nil, or_false] at hx; rcases hx with rfl | rfl <;> exact wfN 3) (by kernel_rfl) (by kernel_rfl) (by kernel_rfl) (fun c sla _ _ => ⟨(tCons hN.1 (tCons hN.2.1 (tCons hN.2.2.1 (tCons hN.2.2.2 (tCons h0.1 (tCons h0.2.1 (tCons h0.2.2.1 (tCons h0.2.2.2 tNil)))))))), mNil⟩) (bAnd_true hc).1 (bAnd_true (bAnd_true hc).2).1 (Nat.eq_of_beq_eq_true (bAnd_true (bAnd_true hc).2).2) rfl (fun _ => trivial) (fun v hG sla hs => by subst hs; exact hg v hG)

def PhiC3 (val : Nat → Int) (Y : List Int) : Prop := Y.getD 0 0 = 0 → (val 51 = 0 ∧ (val 40 = 3 → val 71 = 0)) ∧ (val 91 = 0 ∧ (val 80 = 3 → val 111 = 0)) ∧ (val 131 = 0 ∧ (val 120 = 3 → val 151 = 0))

noncomputable abbrev phiC3 (Y : List SX) : SB := .or (.not (.eq (Y.getD 0 (.c 0)) (.c 0))) (.and (.and (.eq (.a 51) (.c 0)) (.or (.not (.eq (.a 40) (.c 3))) (.eq (.a 71) (.c 0)))) (.and (.and (.eq (.a 91) (.c 0)) (.or (.not (.eq (.a 80) (.c 3))) (.eq (.a 111) (.c 0)))) (.and (.eq (.a 131) (.c 0)) (.or (.not (.eq (.a 120) (.c 3))) (.eq (.a 151) (.c 0))))))

theorem phiC3_holds {val : Nat → Int} {Y : List SX} (h : (phiC3 Y).eval val = true) : PhiC3 val (Y.map (SX.eval val)) := by
  intro h0
  simp only [SB.eval, getD_map_eval, SX.eval, Bool.or_eq_true, Bool.and_eq_true, Bool.not_eq_true', beq_eq_false_iff_ne, ne_eq, beq_iff_eq] at h
  rcases h with h | h
  · exact absurd h0 h
  · obtain ⟨⟨p0, q0⟩, ⟨p1, q1⟩, ⟨p2, q2⟩⟩ := h
    exact ⟨⟨p0, fun e => q0.resolve_left fun q => q e⟩, ⟨p1, fun e => q1.resolve_left fun q => q e⟩, ⟨p2, fun e => q2.resolve_left fun q => q e⟩⟩

abbrev CheckQ3 (val : Nat → Int) : Prop := ∀ op zs, NmN val op zs 3 → NameH val → ArgH0 val → ArgH1 val → ArgH2 val → ImmH0 val → ImmH1 val → ImmH2 val → BitsR val op zs → QC Try.prog G1 1 3 (outs 3) [(11, [inst 3], [.i 0]), (19, [inst 3], [.i 0])] 1 (PhiC3 val) val

theorem cl3 {val : Nat → Int} {F : List Fact} (h : Holds val F) (Y : List SX) (hc : bAnd (F.all (noF 1)) (bAnd (Y.all (noA 1)) (bAnd (Nat.beq Y.length 1) (isTrue (decF F (phiC3 Y))))) = true)
    (hg : ∀ (v : Nat → Int) (hG : Holds v (F ++ [.ge (.a 1) 3])), @givesO (symsOf v _ hG sl0) Try.prog (orElse (tabO (nameT ++ (argT0 ++ immT0) ++ (argT1 ++ immT1) ++ (argT2 ++ immT2))) (@mTab (symsOf v _ hG sl0) (bitsM false (pat 3)))) 1000 (outs 3) Y [(11, [inst 3], [.i 0]), (19, [inst 3], [.i 0])] = true) : CheckQ3 val :=
  fun op zs hm hN h0 h1 h2 i0 i1 i2 hB => leafQC (tab := (nameT ++ (argT0 ++ immT0) ++ (argT1 ++ immT1) ++ (argT2 ++ immT2))) (me := (bitsM false (pat 3))) h Y phiC3 mixK (by kernel_rfl) (by intro x hx; simp only [List.mem_cons, List.not_mem_nil, or_false] at hx; rcases hx with rfl | rfl <;> exact wfN 3) (by kernel_rfl) (by kernel_rfl) (by kernel_rfl) (fun c sla _ _ => ⟨(tCons hN.1 (tCons hN.2.1 (tCons hN.2.2.1 (tCons hN.2.2.2 (tCons h0.1 (tCons h0.2.1 (tCons h0.2.2.1 (tCons h0.2.2.2 (tCons i0.1 (tCons i0.2 (tCons h1.1 (tCons h1.2.1 (tCons h1.2.2.1 (tCons h1.2.2.2 (tCons i1.1 (tCons i1.2 (tCons h2.1 (tCons h2.2.1 (tCons h2.2.2.1 (tCons h2.2.2.2 (tCons i2.1 (tCons i2.2 tNil)))))))))))))))))))))), (mCons (me_of (op := op) (zs := zs) (fun w vs hv => pat_of (by omega) (nm_upd hm 1 (by omega) c) hv) rfl hB.1) (mCons (me_of (op := op) (zs := zs) (fun w vs hv => pat_of (by omega) (nm_upd hm 1 (by omega) c) hv) rfl hB.2) mNil))⟩) (bAnd_true hc).1 (bAnd_true (bAnd_true hc).2).1 (Nat.eq_of_beq_eq_true (bAnd_true (bAnd_true (bAnd_true hc).2).2).1) (bAnd_true (bAnd_true (bAnd_true hc).2).2).2 phiC3_holds (fun v hG sla hs => by subst hs; exact hg v hG)

abbrev CheckQ3z (val : Nat → Int) : Prop := ∀ op zs, NmN val op zs 3 → NameH val → ArgH0 val → ArgH1 val → ArgH2 val → ImmZ → val 5 = 0 → BitsR val op zs → QC Try.prog G1 1 3 (outs 3) [(11, [inst 3], [.i 0]), (19, [inst 3], [.i 0])] 1 (PhiC3 val) val

theorem cl3z {val : Nat → Int} {F : List Fact} (h : Holds val F) (Y : List SX) (hc : bAnd (F.all (noF 1)) (bAnd (Y.all (noA 1)) (bAnd (Nat.beq Y.length 1) (isTrue (decF F (phiC3 Y))))) = true)
    (hg : ∀ (v : Nat → Int) (hG : Holds v (F ++ [.ge (.a 1) 3])), @givesO (symsOf v _ hG sl0) Try.prog (orElse (tabO (nameT ++ (argT0 ++ immT0z) ++ (argT1 ++ immT1z) ++ (argT2 ++ immT2z))) (@mTab (symsOf v _ hG sl0) (bitsM true (pat 3)))) 1000 (outs 3) Y [(11, [inst 3], [.i 0]), (19, [inst 3], [.i 0])] = true) : CheckQ3z val :=
  fun op zs hm hN h0 h1 h2 hI hb0 hB => leafQC (tab := (nameT ++ (argT0 ++ immT0z) ++ (argT1 ++ immT1z) ++ (argT2 ++ immT2z))) (me := (bitsM true (pat 3))) h Y phiC3 mixK (by kernel_rfl) (by intro x hx; simp only [List.mem_cons, List.not_mem_nil, or_false] at hx; rcases hx with rfl | rfl <;> exact wfN 3) (by kernel_rfl) (by kernel_rfl) (by kernel_rfl) (fun c sla _ _ => ⟨(tCons hN.1 (tCons hN.2.1 (tCons hN.2.2.1 (tCons hN.2.2.2 (tCons h0.1 (tCons h0.2.1 (tCons h0.2.2.1 (tCons h0.2.2.2 (tCons (hI _ _).1 (tCons (hI _ _).2 (tCons h1.1 (tCons h1.2.1 (tCons h1.2.2.1 (tCons h1.2.2.2 (tCons (hI _ _).1 (tCons (hI _ _).2 (tCons h2.1 (tCons h2.2.1 (tCons h2.2.2.1 (tCons h2.2.2.2 (tCons (hI _ _).1 (tCons (hI _ _).2 tNil)))))))))))))))))))))), (mCons (me_of (op := op) (zs := zs) (fun w vs hv => pat_of (by omega) (nm_upd hm 1 (by omega) c) hv) rfl (by have := hB.1; rw [hb0] at this; exact this)) (mCons (me_of (op := op) (zs := zs) (fun w vs hv => pat_of (by omega) (nm_upd hm 1 (by omega) c) hv) rfl (by have := hB.2; rw [hb0] at this; exact this)) mNil))⟩) (bAnd_true hc).1 (bAnd_true (bAnd_true hc).2).1 (Nat.eq_of_beq_eq_true (bAnd_true (bAnd_true (bAnd_true hc).2).2).1) (bAnd_true (bAnd_true (bAnd_true hc).2).2).2 phiC3_holds (fun v hG sla hs => by subst hs; exact hg v hG)

abbrev BitsQ4 (val : Nat → Int) : Prop := NameH val → ArgH0 val → QC Try.prog G1 1 4 (outs 4) [(12, [inst 4], [.i 0, .b 1]), (18, [inst 4], [.i 0, .b 1])] 2 (fun _ => True) val

theorem bl4 {val : Nat → Int} {F : List Fact} (h : Holds val F) (Y : List SX) (hc : bAnd (F.all (noF 1)) (bAnd (Y.all (noA 1)) (Nat.beq Y.length 2)) = true)
    (hg : ∀ (v : Nat → Int) (hG : Holds v (F ++ [.ge (.a 1) 4])), @givesO (symsOf v _ hG sl0) Try.prog (orElse (tabO (nameT ++ argT0)) (@mTab (symsOf v _ hG sl0) [])) 1000 (outs 4) Y [(12, [inst 4], [.i 0, .b 1]), (18, [inst 4], [.i 0, .b 1])] = true) : BitsQ4 val :=
  fun hN h0 => leafQC (tab := (nameT ++ argT0)) (me := []) h Y (fun _ => .tt) mixK (by kernel_rfl) (by intro x hx; simp only [List.mem_cons, List.not_mem_nil, or_false] at hx; rcases hx with rfl | rfl <;> exact wfN 4) (by kernel_rfl) (by kernel_rfl) (by kernel_rfl) (fun c sla _ _ => ⟨(tCons hN.1 (tCons hN.2.1 (tCons hN.2.2.1 (tCons hN.2.2.2 (tCons h0.1 (tCons h0.2.1 (tCons h0.2.2.1 (tCons h0.2.2.2 tNil)))))))), mNil⟩) (bAnd_true hc).1 (bAnd_true (bAnd_true hc).2).1 (Nat.eq_of_beq_eq_true (bAnd_true (bAnd_true hc).2).2) rfl (fun _ => trivial) (fun v hG sla hs => by subst hs; exact hg v hG)

def PhiC4 (val : Nat → Int) (Y : List Int) : Prop := Y.getD 0 0 = 0 → (val 51 = 0 ∧ (val 40 = 3 → val 71 = 0)) ∧ (val 91 = 0 ∧ (val 80 = 3 → val 111 = 0)) ∧ (val 131 = 0 ∧ (val 120 = 3 → val 151 = 0)) ∧ (val 171 = 0 ∧ (val 160 = 3 → val 191 = 0))

noncomputable abbrev phiC4 (Y : List SX) : SB := .or (.not (.eq (Y.getD 0 (.c 0)) (.c 0))) (.and (.and (.eq (.a 51) (.c 0)) (.or (.not (.eq (.a 40) (.c 3))) (.eq (.a 71) (.c 0)))) (.and (.and (.eq (.a 91) (.c 0)) (.or (.not (.eq (.a 80) (.c 3))) (.eq (.a 111) (.c 0)))) (.and (.and (.eq (.a 131) (.c 0)) (.or (.not (.eq (.a 120) (.c 3))) (.eq (.a 151) (.c 0)))) (.and (.eq (.a 171) (.c 0)) (.or (.not (.eq (.a 160) (.c 3))) (.eq (.a 191) (.c 0)))))))

theorem phiC4_holds {val : Nat → Int} {Y : List SX} (h : (phiC4 Y).eval val = true) : PhiC4 val (Y.map (SX.eval val)) := by
  intro h0
  simp only [SB.eval, getD_map_eval, SX.eval, Bool.or_eq_true, Bool.and_eq_true, Bool.not_eq_true', beq_eq_false_iff_ne, ne_eq, beq_iff_eq] at h
  rcases h with h | h
  · exact absurd h0 h
  · obtain ⟨⟨p0, q0⟩, ⟨p1, q1⟩, ⟨p2, q2⟩, ⟨p3, q3⟩⟩ := h
    exact ⟨⟨p0, fun e => q0.resolve_left fun q => q e⟩, ⟨p1, fun e => q1.resolve_left fun q => q e⟩, ⟨p2, fun e => q2.resolve_left fun q => q e⟩, ⟨p3, fun e => q3.resolve_left fun q => q e⟩⟩

abbrev CheckQ4 (val : Nat → Int) : Prop := ∀ op zs, NmN val op zs 4 → NameH val → ArgH0 val → ArgH1 val → ArgH2 val → ArgH3 val → ImmH0 val → ImmH1 val → ImmH2 val → ImmH3 val → BitsR val op zs → QC Try.prog G1 1 4 (outs 4) [(11, [inst 4], [.i 0]), (19, [inst 4], [.i 0])] 1 (PhiC4 val) val

theorem cl4 {val : Nat → Int} {F : List Fact} (h : Holds val F) (Y : List SX) (hc : bAnd (F.all (noF 1)) (bAnd (Y.all (noA 1)) (bAnd (Nat.beq Y.length 1) (isTrue (decF F (phiC4 Y))))) = true)
    (hg : ∀ (v : Nat → Int) (hG : Holds v (F ++ [.ge (.a 1) 4])), @givesO (symsOf v _ hG sl0) Try.prog (orElse (tabO (nameT ++ (argT0 ++ immT0) ++ (argT1 ++ immT1) ++ (argT2 ++ immT2) ++ (argT3 ++ immT3))) (@mTab (symsOf v _ hG sl0) (bitsM false (pat 4)))) 1000 (outs 4) Y [(11, [inst 4], [.i 0]), (19, [inst 4], [.i 0])] = true) : CheckQ4 val :=
  fun op zs hm hN h0 h1 h2 h3 i0 i1 i2 i3 hB => leafQC (tab := (nameT ++ (argT0 ++ immT0) ++ (argT1 ++ immT1) ++ (argT2 ++ immT2) ++ (argT3 ++ immT3))) (me := (bitsM false (pat 4))) h Y phiC4 mixK (by kernel_rfl) (by intro x hx; simp only [List.mem_cons, List.not_mem_nil, or_false] at hx; rcases hx with rfl | rfl <;> exact wfN 4) (by kernel_rfl) (by kernel_rfl) (by kernel_rfl) (fun c sla _ _ => ⟨(tCons hN.1 (tCons hN.2.1 (tCons hN.2.2.1 (tCons hN.2.2.2 (tCons h0.1 (tCons h0.2.1 (tCons h0.2.2.1 (tCons h0.2.2.2 (tCons i0.1 (tCons i0.2 (tCons h1.1 (tCons h1.2.1 (tCons h1.2.2.1 (tCons h1.2.2.2 (tCons i1.1 (tCons i1.2 (tCons h2.1 (tCons h2.2.1 (tCons h2.2.2.1 (tCons h2.2.2.2 (tCons i2.1 (tCons i2.2 (tCons h3.1 (tCons h3.2.1 (tCons h3.2.2.1 (tCons h3.2.2.2 (tCons i3.1 (tCons i3.2 tNil)))))))))))))))))))))))))))), (mCons (me_of (op := op) (zs := zs) (fun w vs hv => pat_of (by omega) (nm_upd hm 1 (by omega) c) hv) rfl hB.1) (mCons (me_of (op := op) (zs := zs) (fun w vs hv => pat_of (by omega) (nm_upd hm 1 (by omega) c) hv) rfl hB.2) mNil))⟩) (bAnd_true hc).1 (bAnd_true (bAnd_true hc).2).1 (Nat.eq_of_beq_eq_true (bAnd_true (bAnd_true (bAnd_true hc).2).2).1) (bAnd_true (bAnd_true (bAnd_true hc).2).2).2 phiC4_holds (fun v hG sla hs => by subst hs; exact hg v hG)

abbrev CheckQ4z (val : Nat → Int) : Prop := ∀ op zs, NmN val op zs 4 → NameH val → ArgH0 val → ArgH1 val → ArgH2 val → ArgH3 val → ImmZ → val 5 = 0 → BitsR val op zs → QC Try.prog G1 1 4 (outs 4) [(11, [inst 4], [.i 0]), (19, [inst 4], [.i 0])] 1 (PhiC4 val) val

theorem cl4z {val : Nat → Int} {F : List Fact} (h : Holds val F) (Y : List SX) (hc : bAnd (F.all (noF 1)) (bAnd (Y.all (noA 1)) (bAnd (Nat.beq Y.length 1) (isTrue (decF F (phiC4 Y))))) = true)
    (hg : ∀ (v : Nat → Int) (hG : Holds v (F ++ [.ge (.a 1) 4])), @givesO (symsOf v _ hG sl0) Try.prog (orElse (tabO (nameT ++ (argT0 ++ immT0z) ++ (argT1 ++ immT1z) ++ (argT2 ++ immT2z) ++ (argT3 ++ immT3z))) (@mTab (symsOf v _ hG sl0) (bitsM true (pat 4)))) 1000 (outs 4) Y [(11, [inst 4], [.i 0]), (19, [inst 4], [.i 0])] = true) : CheckQ4z val :=
  fun op zs hm hN h0 h1 h2 h3 hI hb0 hB => leafQC (tab := (nameT ++ (argT0 ++ immT0z) ++ (argT1 ++ immT1z) ++ (argT2 ++ immT2z) ++ (argT3 ++ immT3z))) (me := (bitsM true (pat 4))) h Y phiC4 mixK (by kernel_rfl) (by intro x hx; simp only [List.mem_cons, List.not_mem_nil, or_false] at hx; rcases hx with rfl | rfl <;> exact wfN 4) (by kernel_rfl) (by kernel_rfl) (by kernel_rfl) (fun c sla _ _ => ⟨(tCons hN.1 (tCons hN.2.1 (tCons hN.2.2.1 (tCons hN.2.2.2 (tCons h0.1 (tCons h0.2.1 (tCons h0.2.2.1 (tCons h0.2.2.2 (tCons (hI _ _).1 (tCons (hI _ _).2 (tCons h1.1 (tCons h1.2.1 (tCons h1.2.2.1 (tCons h1.2.2.2 (tCons (hI _ _).1 (tCons (hI _ _).2 (tCons h2.1 (tCons h2.2.1 (tCons h2.2.2.1 (tCons h2.2.2.2 (tCons (hI _ _).1 (tCons (hI _ _).2 (tCons h3.1 (tCons h3.2.1 (tCons h3.2.2.1 (tCons h3.2.2.2 (tCons (hI _ _).1 (tCons (hI _ _).2 tNil)))))))))))))))))))))))))))), (mCons (me_of (op := op) (zs := zs) (fun w vs hv => pat_of (by omega) (nm_upd hm 1 (by omega) c) hv) rfl (by have := hB.1; rw [hb0] at this; exact this)) (mCons (me_of (op := op) (zs := zs) (fun w vs hv => pat_of (by omega) (nm_upd hm 1 (by omega) c) hv) rfl (by have := hB.2; rw [hb0] at this; exact this)) mNil))⟩) (bAnd_true hc).1 (bAnd_true (bAnd_true hc).2).1 (Nat.eq_of_beq_eq_true (bAnd_true (bAnd_true (bAnd_true hc).2).2).1) (bAnd_true (bAnd_true (bAnd_true hc).2).2).2 phiC4_holds (fun v hG sla hs => by subst hs; exact hg v hG)

abbrev BitsQ5 (val : Nat → Int) : Prop := NameH val → ArgH0 val → QC Try.prog G1 1 5 (outs 5) [(12, [inst 5], [.i 0, .b 1]), (18, [inst 5], [.i 0, .b 1])] 2 (fun _ => True) val

theorem bl5 {val : Nat → Int} {F : List Fact} (h : Holds val F) (Y : List SX) (hc : bAnd (F.all (noF 1)) (bAnd (Y.all (noA 1)) (Nat.beq Y.length 2)) = true)
    (hg : ∀ (v : Nat → Int) (hG : Holds v (F ++ [.ge (.a 1) 5])), @givesO (symsOf v _ hG sl0) Try.prog (orElse (tabO (nameT ++ argT0)) (@mTab (symsOf v _ hG sl0) [])) 1000 (outs 5) Y [(12, [inst 5], [.i 0, .b 1]), (18, [inst 5], [.i 0, .b 1])] = true) : BitsQ5 val :=
  fun hN h0 => leafQC (tab := (nameT ++ argT0)) (me := []) h Y (fun _ => .tt) mixK (by kernel_rfl) (by intro x hx; simp only [List.mem_cons, List.not_mem_nil, or_false] at hx; rcases hx with rfl | rfl <;> exact wfN 5) (by kernel_rfl) (by kernel_rfl) (by kernel_rfl) (fun c sla _ _ => ⟨(tCons hN.1 (tCons hN.2.1 (tCons hN.2.2.1 (tCons hN.2.2.2 (tCons h0.1 (tCons h0.2.1 (tCons h0.2.2.1 (tCons h0.2.2.2 tNil)))))))), mNil⟩) (bAnd_true hc).1 (bAnd_true (bAnd_true hc).2).1 (Nat.eq_of_beq_eq_true (bAnd_true (bAnd_true hc).2).2) rfl (fun _ => trivial) (fun v hG sla hs => by subst hs; exact hg v hG)

def PhiC5 (_ : Nat → Int) (Y : List Int) : Prop := Y.getD 0 0 ≠ 0

noncomputable abbrev phiC5 (Y : List SX) : SB := .not (.eq (Y.getD 0 (.c 0)) (.c 0))

theorem phiC5_holds {val : Nat → Int} {Y : List SX} (h : (phiC5 Y).eval val = true) : PhiC5 val (Y.map (SX.eval val)) := by
  simp only [SB.eval, getD_map_eval, SX.eval, Bool.not_eq_true', beq_eq_false_iff_ne, ne_eq] at h
  exact h

abbrev CheckQ5 (val : Nat → Int) : Prop := ∀ op zs, NmN val op zs 5 → NameH val → BitsR val op zs → QC Try.prog G1 1 5 (outs 5) [(11, [inst 5], [.i 0]), (19, [inst 5], [.i 0])] 1 (PhiC5 val) val

theorem cl5 {val : Nat → Int} {F : List Fact} (h : Holds val F) (Y : List SX) (hc : bAnd (F.all (noF 1)) (bAnd (Y.all (noA 1)) (bAnd (Nat.beq Y.length 1) (isTrue (decF F (phiC5 Y))))) = true)
    (hg : ∀ (v : Nat → Int) (hG : Holds v (F ++ [.ge (.a 1) 5])), @givesO (symsOf v _ hG sl0) Try.prog (orElse (tabO nameT) (@mTab (symsOf v _ hG sl0) (bitsM false (pat 5)))) 1000 (outs 5) Y [(11, [inst 5], [.i 0]), (19, [inst 5], [.i 0])] = true) : CheckQ5 val :=
  fun op zs hm hN hB => leafQC (tab := nameT) (me := (bitsM false (pat 5))) h Y phiC5 mixK (by kernel_rfl) (by intro x hx; simp only [List.mem_cons, List.not_mem_nil, or_false] at hx; rcases hx with rfl | rfl <;> exact wfN 5) (by kernel_rfl) (by kernel_rfl) (by kernel_rfl) (fun c sla _ _ => ⟨(tCons hN.1 (tCons hN.2.1 (tCons hN.2.2.1 (tCons hN.2.2.2 tNil)))), (mCons (me_of (op := op) (zs := zs) (fun w vs hv => pat_of (by omega) (nm_upd hm 1 (by omega) c) hv) rfl hB.1) (mCons (me_of (op := op) (zs := zs) (fun w vs hv => pat_of (by omega) (nm_upd hm 1 (by omega) c) hv) rfl hB.2) mNil))⟩) (bAnd_true hc).1 (bAnd_true (bAnd_true hc).2).1 (Nat.eq_of_beq_eq_true (bAnd_true (bAnd_true (bAnd_true hc).2).2).1) (bAnd_true (bAnd_true (bAnd_true hc).2).2).2 phiC5_holds (fun v hG sla hs => by subst hs; exact hg v hG)

abbrev CheckQ5z (val : Nat → Int) : Prop := ∀ op zs, NmN val op zs 5 → NameH val → ImmZ → val 5 = 0 → BitsR val op zs → QC Try.prog G1 1 5 (outs 5) [(11, [inst 5], [.i 0]), (19, [inst 5], [.i 0])] 1 (PhiC5 val) val

theorem cl5z {val : Nat → Int} {F : List Fact} (h : Holds val F) (Y : List SX) (hc : bAnd (F.all (noF 1)) (bAnd (Y.all (noA 1)) (bAnd (Nat.beq Y.length 1) (isTrue (decF F (phiC5 Y))))) = true)
    (hg : ∀ (v : Nat → Int) (hG : Holds v (F ++ [.ge (.a 1) 5])), @givesO (symsOf v _ hG sl0) Try.prog (orElse (tabO nameT) (@mTab (symsOf v _ hG sl0) (bitsM true (pat 5)))) 1000 (outs 5) Y [(11, [inst 5], [.i 0]), (19, [inst 5], [.i 0])] = true) : CheckQ5z val :=
  fun op zs hm hN _ hb0 hB => leafQC (tab := nameT) (me := (bitsM true (pat 5))) h Y phiC5 mixK (by kernel_rfl) (by intro x hx; simp only [List.mem_cons, List.not_mem_nil, or_false] at hx; rcases hx with rfl | rfl <;> exact wfN 5) (by kernel_rfl) (by kernel_rfl) (by kernel_rfl) (fun c sla _ _ => ⟨(tCons hN.1 (tCons hN.2.1 (tCons hN.2.2.1 (tCons hN.2.2.2 tNil)))), (mCons (me_of (op := op) (zs := zs) (fun w vs hv => pat_of (by omega) (nm_upd hm 1 (by omega) c) hv) rfl (by have := hB.1; rw [hb0] at this; exact this)) (mCons (me_of (op := op) (zs := zs) (fun w vs hv => pat_of (by omega) (nm_upd hm 1 (by omega) c) hv) rfl (by have := hB.2; rw [hb0] at this; exact this)) mNil))⟩) (bAnd_true hc).1 (bAnd_true (bAnd_true hc).2).1 (Nat.eq_of_beq_eq_true (bAnd_true (bAnd_true (bAnd_true hc).2).2).1) (bAnd_true (bAnd_true (bAnd_true hc).2).2).2 phiC5_holds (fun v hG sla hs => by subst hs; exact hg v hG)

abbrev BitsQ6 (val : Nat → Int) : Prop := NameH val → ArgH0 val → QC Try.prog G1 1 6 (outs 6) [(12, [inst 6], [.i 0, .b 1]), (18, [inst 6], [.i 0, .b 1])] 2 (fun _ => True) val

theorem bl6 {val : Nat → Int} {F : List Fact} (h : Holds val F) (Y : List SX) (hc : bAnd (F.all (noF 1)) (bAnd (Y.all (noA 1)) (Nat.beq Y.length 2)) = true)
    (hg : ∀ (v : Nat → Int) (hG : Holds v (F ++ [.ge (.a 1) 6])), @givesO (symsOf v _ hG sl0) Try.prog (orElse (tabO (nameT ++ argT0)) (@mTab (symsOf v _ hG sl0) [])) 1000 (outs 6) Y [(12, [inst 6], [.i 0, .b 1]), (18, [inst 6], [.i 0, .b 1])] = true) : BitsQ6 val :=
  fun hN h0 => leafQC (tab := (nameT ++ argT0)) (me := []) h Y (fun _ => .tt) mixK (by kernel_rfl) (by intro x hx; simp only [List.mem_cons, List.not_mem_nil, or_false] at hx; rcases hx with rfl | rfl <;> exact wfN 6) (by kernel_rfl) (by kernel_rfl) (by kernel_rfl) (fun c sla _ _ => ⟨(tCons hN.1 (tCons hN.2.1 (tCons hN.2.2.1 (tCons hN.2.2.2 (tCons h0.1 (tCons h0.2.1 (tCons h0.2.2.1 (tCons h0.2.2.2 tNil)))))))), mNil⟩) (bAnd_true hc).1 (bAnd_true (bAnd_true hc).2).1 (Nat.eq_of_beq_eq_true (bAnd_true (bAnd_true hc).2).2) rfl (fun _ => trivial) (fun v hG sla hs => by subst hs; exact hg v hG)

def PhiC6 (_ : Nat → Int) (Y : List Int) : Prop := Y.getD 0 0 ≠ 0

noncomputable abbrev phiC6 (Y : List SX) : SB := .not (.eq (Y.getD 0 (.c 0)) (.c 0))

theorem phiC6_holds {val : Nat → Int} {Y : List SX} (h : (phiC6 Y).eval val = true) : PhiC6 val (Y.map (SX.eval val)) := by
  simp only [SB.eval, getD_map_eval, SX.eval, Bool.not_eq_true', beq_eq_false_iff_ne, ne_eq] at h
  exact h

abbrev CheckQ6 (val : Nat → Int) : Prop := ∀ op zs, NmN val op zs 6 → NameH val → BitsR val op zs → QC Try.prog G1 1 6 (outs 6) [(11, [inst 6], [.i 0]), (19, [inst 6], [.i 0])] 1 (PhiC6 val) val

theorem cl6 {val : Nat → Int} {F : List Fact} (h : Holds val F) (Y : List SX) (hc : bAnd (F.all (noF 1)) (bAnd (Y.all (noA 1)) (bAnd (Nat.beq Y.length 1) (isTrue (decF F (phiC6 Y))))) = true)
    (hg : ∀ (v : Nat → Int) (hG : Holds v (F ++ [.ge (.a 1) 6])), @givesO (symsOf v _ hG sl0) Try.prog (orElse (tabO nameT) (@mTab (symsOf v _ hG sl0) (bitsM false (pat 6)))) 1000 (outs 6) Y [(11, [inst 6], [.i 0]), (19, [inst 6], [.i 0])] = true) : CheckQ6 val :=
  fun op zs hm hN hB => leafQC (tab := nameT) (me := (bitsM false (pat 6))) h Y phiC6 mixK (by kernel_rfl) (by intro x hx; simp only [List.mem_cons, List.not_mem_nil, or_false] at hx; rcases hx with rfl | rfl <;> exact wfN 6) (by kernel_rfl) (by kernel_rfl) (by kernel_rfl) (fun c sla _ _ => ⟨(tCons hN.1 (tCons hN.2.1 (tCons hN.2.2.1 (tCons hN.2.2.2 tNil)))), (mCons (me_of (op := op) (zs := zs) (fun w vs hv => pat_of (by omega) (nm_upd hm 1 (by omega) c) hv) rfl hB.1) (mCons (me_of (op := op) (zs := zs) (fun w vs hv => pat_of (by omega) (nm_upd hm 1 (by omega) c) hv) rfl hB.2) mNil))⟩) (bAnd_true hc).1 (bAnd_true (bAnd_true hc).2).1 (Nat.eq_of_beq_eq_true (bAnd_true (bAnd_true (bAnd_true hc).2).2).1) (bAnd_true (bAnd_true (bAnd_true hc).2).2).2 phiC6_holds (fun v hG sla hs => by subst hs; exact hg v hG)

abbrev CheckQ6z (val : Nat → Int) : Prop := ∀ op zs, NmN val op zs 6 → NameH val → ImmZ → val 5 = 0 → BitsR val op zs → QC Try.prog G1 1 6 (outs 6) [(11, [inst 6], [.i 0]), (19, [inst 6], [.i 0])] 1 (PhiC6 val) val

theorem cl6z {val : Nat → Int} {F : List Fact} (h : Holds val F) (Y : List SX) (hc : bAnd (F.all (noF 1)) (bAnd (Y.all (noA 1)) (bAnd (Nat.beq Y.length 1) (isTrue (decF F (phiC6 Y))))) = true)
    (hg : ∀ (v : Nat → Int) (hG : Holds v (F ++ [.ge (.a 1) 6])), @givesO (symsOf v _ hG sl0) Try.prog (orElse (tabO nameT) (@mTab (symsOf v _ hG sl0) (bitsM true (pat 6)))) 1000 (outs 6) Y [(11, [inst 6], [.i 0]), (19, [inst 6], [.i 0])] = true) : CheckQ6z val :=
  fun op zs hm hN _ hb0 hB => leafQC (tab := nameT) (me := (bitsM true (pat 6))) h Y phiC6 mixK (by kernel_rfl) (by intro x hx; simp only [List.mem_cons, List.not_mem_nil, or_false] at hx; rcases hx with rfl | rfl <;> exact wfN 6) (by kernel_rfl) (by kernel_rfl) (by kernel_rfl) (fun c sla _ _ => ⟨(tCons hN.1 (tCons hN.2.1 (tCons hN.2.2.1 (tCons hN.2.2.2 tNil)))), (mCons (me_of (op := op) (zs := zs) (fun w vs hv => pat_of (by omega) (nm_upd hm 1 (by omega) c) hv) rfl (by have := hB.1; rw [hb0] at this; exact this)) (mCons (me_of (op := op) (zs := zs) (fun w vs hv => pat_of (by omega) (nm_upd hm 1 (by omega) c) hv) rfl (by have := hB.2; rw [hb0] at this; exact this)) mNil))⟩) (bAnd_true hc).1 (bAnd_true (bAnd_true hc).2).1 (Nat.eq_of_beq_eq_true (bAnd_true (bAnd_true (bAnd_true hc).2).2).1) (bAnd_true (bAnd_true (bAnd_true hc).2).2).2 phiC6_holds (fun v hG sla hs => by subst hs; exact hg v hG)

abbrev BitsQ7 (val : Nat → Int) : Prop := NameH val → ArgH0 val → QC Try.prog G1 1 7 (outs 7) [(12, [inst 7], [.i 0, .b 1]), (18, [inst 7], [.i 0, .b 1])] 2 (fun _ => True) val

theorem bl7 {val : Nat → Int} {F : List Fact} (h : Holds val F) (Y : List SX) (hc : bAnd (F.all (noF 1)) (bAnd (Y.all (noA 1)) (Nat.beq Y.length 2)) = true)
    (hg : ∀ (v : Nat → Int) (hG : Holds v (F ++ [.ge (.a 1) 7])), @givesO (symsOf v _ hG sl0) Try.prog (orElse (tabO (nameT ++ argT0)) (@mTab (symsOf v _ hG sl0) [])) 1000 (outs 7) Y [(12, [inst 7], [.i 0, .b 1]), (18, [inst 7], [.i 0, .b 1])] = true) : BitsQ7 val :=
  fun hN h0 => leafQC (tab := (nameT ++ argT0)) (me := []) h Y (fun _ => .tt) mixK (by kernel_rfl) (by intro x hx; simp only [List.mem_cons, List.not_mem_nil, or_false] at hx; rcases hx with rfl | rfl <;> exact wfN 7) (by kernel_rfl) (by kernel_rfl) (by kernel_rfl) (fun c sla _ _ => ⟨(tCons hN.1 (tCons hN.2.1 (tCons hN.2.2.1 (tCons hN.2.2.2 (tCons h0.1 (tCons h0.2.1 (tCons h0.2.2.1 (tCons h0.2.2.2 tNil)))))))), mNil⟩) (bAnd_true hc).1 (bAnd_true (bAnd_true hc).2).1 (Nat.eq_of_beq_eq_true (bAnd_true (bAnd_true hc).2).2) rfl (fun _ => trivial) (fun v hG sla hs => by subst hs; exact hg v hG)

def PhiC7 (_ : Nat → Int) (Y : List Int) : Prop := Y.getD 0 0 ≠ 0

noncomputable abbrev phiC7 (Y : List SX) : SB := .not (.eq (Y.getD 0 (.c 0)) (.c 0))

theorem phiC7_holds {val : Nat → Int} {Y : List SX} (h : (phiC7 Y).eval val = true) : PhiC7 val (Y.map (SX.eval val)) := by
  simp only [SB.eval, getD_map_eval, SX.eval, Bool.not_eq_true', beq_eq_false_iff_ne, ne_eq] at h
  exact h

abbrev CheckQ7 (val : Nat → Int) : Prop := ∀ op zs, NmN val op zs 7 → NameH val → BitsR val op zs → QC Try.prog G1 1 7 (outs 7) [(11, [inst 7], [.i 0]), (19, [inst 7], [.i 0])] 1 (PhiC7 val) val

theorem cl7 {val : Nat → Int} {F : List Fact} (h : Holds val F) (Y : List SX) (hc : bAnd (F.all (noF 1)) (bAnd (Y.all (noA 1)) (bAnd (Nat.beq Y.length 1) (isTrue (decF F (phiC7 Y))))) = true)
    (hg : ∀ (v : Nat → Int) (hG : Holds v (F ++ [.ge (.a 1) 7])), @givesO (symsOf v _ hG sl0) Try.prog (orElse (tabO nameT) (@mTab (symsOf v _ hG sl0) (bitsM false (pat 7)))) 1000 (outs 7) Y [(11, [inst 7], [.i 0]), (19, [inst 7], [.i 0])] = true) : CheckQ7 val :=
  fun op zs hm hN hB => leafQC (tab := nameT) (me := (bitsM false (pat 7))) h Y phiC7 mixK (by kernel_rfl) (by intro x hx; simp only [List.mem_cons, List.not_mem_nil, or_false] at hx; rcases hx with rfl | rfl <;> exact wfN 7) (by kernel_rfl) (by kernel_rfl) (by kernel_rfl) (fun c sla _ _ => ⟨(tCons hN.1 (tCons hN.2.1 (tCons hN.2.2.1 (tCons hN.2.2.2 tNil)))), (mCons (me_of (op := op) (zs := zs) (fun w vs hv => pat_of (by omega) (nm_upd hm 1 (by omega) c) hv) rfl hB.1) (mCons (me_of (op := op) (zs := zs) (fun w vs hv => pat_of (by omega) (nm_upd hm 1 (by omega) c) hv) rfl hB.2) mNil))⟩) (bAnd_true hc).1 (bAnd_true (bAnd_true hc).2).1 (Nat.eq_of_beq_eq_true (bAnd_true (bAnd_true (bAnd_true hc).2).2).1) (bAnd_true (bAnd_true (bAnd_true hc).2).2).2 phiC7_holds (fun v hG sla hs => by subst hs; exact hg v hG)

abbrev CheckQ7z (val : Nat → Int) : Prop := ∀ op zs, NmN val op zs 7 → NameH val → ImmZ → val 5 = 0 → BitsR val op zs → QC Try.prog G1 1 7 (outs 7) [(11, [inst 7], [.i 0]), (19, [inst 7], [.i 0])] 1 (PhiC7 val) val

theorem cl7z {val : Nat → Int} {F : List Fact} (h : Holds val F) (Y : List SX) (hc : bAnd (F.all (noF 1)) (bAnd (Y.all (noA 1)) (bAnd (Nat.beq Y.length 1) (isTrue (decF F (phiC7 Y))))) = true)
    (hg : ∀ (v : Nat → Int) (hG : Holds v (F ++ [.ge (.a 1) 7])), @givesO (symsOf v _ hG sl0) Try.prog (orElse (tabO nameT) (@mTab (symsOf v _ hG sl0) (bitsM true (pat 7)))) 1000 (outs 7) Y [(11, [inst 7], [.i 0]), (19, [inst 7], [.i 0])] = true) : CheckQ7z val :=
  fun op zs hm hN _ hb0 hB => leafQC (tab := nameT) (me := (bitsM true (pat 7))) h Y phiC7 mixK (by kernel_rfl) (by intro x hx; simp only [List.mem_cons, List.not_mem_nil, or_false] at hx; rcases hx with rfl | rfl <;> exact wfN 7) (by kernel_rfl) (by kernel_rfl) (by kernel_rfl) (fun c sla _ _ => ⟨(tCons hN.1 (tCons hN.2.1 (tCons hN.2.2.1 (tCons hN.2.2.2 tNil)))), (mCons (me_of (op := op) (zs := zs) (fun w vs hv => pat_of (by omega) (nm_upd hm 1 (by omega) c) hv) rfl (by have := hB.1; rw [hb0] at this; exact this)) (mCons (me_of (op := op) (zs := zs) (fun w vs hv => pat_of (by omega) (nm_upd hm 1 (by omega) c) hv) rfl (by have := hB.2; rw [hb0] at this; exact this)) mNil))⟩) (bAnd_true hc).1 (bAnd_true (bAnd_true hc).2).1 (Nat.eq_of_beq_eq_true (bAnd_true (bAnd_true (bAnd_true hc).2).2).1) (bAnd_true (bAnd_true (bAnd_true hc).2).2).2 phiC7_holds (fun v hG sla hs => by subst hs; exact hg v hG)

abbrev BitsQ8 (val : Nat → Int) : Prop := NameH val → ArgH0 val → QC Try.prog G1 1 8 (outs 8) [(12, [inst 8], [.i 0, .b 1]), (18, [inst 8], [.i 0, .b 1])] 2 (fun _ => True) val

theorem bl8 {val : Nat → Int} {F : List Fact} (h : Holds val F) (Y : List SX) (hc : bAnd (F.all (noF 1)) (bAnd (Y.all (noA 1)) (Nat.beq Y.length 2)) = true)
    (hg : ∀ (v : Nat → Int) (hG : Holds v (F ++ [.ge (.a 1) 8])), @givesO (symsOf v _ hG sl0) Try.prog (orElse (tabO (nameT ++ argT0)) (@mTab (symsOf v _ hG sl0) [])) 1000 (outs 8) Y [(12, [inst 8], [.i 0, .b 1]), (18, [inst 8], [.i 0, .b 1])] = true) : BitsQ8 val :=
  fun hN h0 => leafQC (tab := (nameT ++ argT0)) (me := []) h Y (fun _ => .tt) mixK (by kernel_rfl) (by intro x hx; simp only [List.mem_cons, List.not_mem_nil, or_false] at hx; rcases hx with rfl | rfl <;> exact wfN 8) (by kernel_rfl) (by kernel_rfl) (by kernel_rfl) (fun c sla _ _ => ⟨(tCons hN.1 (tCons hN.2.1 (tCons hN.2.2.1 (tCons hN.2.2.2 (tCons h0.1 (tCons h0.2.1 (tCons h0.2.2.1 (tCons h0.2.2.2 tNil)))))))), mNil⟩) (bAnd_true hc).1 (bAnd_true (bAnd_true hc).2).1 (Nat.eq_of_beq_eq_true (bAnd_true (bAnd_true hc).2).2) rfl (fun _ => trivial) (fun v hG sla hs => by subst hs; exact hg v hG)

def PhiC8 (_ : Nat → Int) (Y : List Int) : Prop := Y.getD 0 0 ≠ 0

noncomputable abbrev phiC8 (Y : List SX) : SB := .not (.eq (Y.getD 0 (.c 0)) (.c 0))

theorem phiC8_holds {val : Nat → Int} {Y : List SX} (h : (phiC8 Y).eval val = true) : PhiC8 val (Y.map (SX.eval val)) := by
  simp only [SB.eval, getD_map_eval, SX.eval, Bool.not_eq_true', beq_eq_false_iff_ne, ne_eq] at h
  exact h

abbrev CheckQ8 (val : Nat → Int) : Prop := ∀ op zs, NmN val op zs 8 → NameH val → BitsR val op zs → QC Try.prog G1 1 8 (outs 8) [(11, [inst 8], [.i 0]), (19, [inst 8], [.i 0])] 1 (PhiC8 val) val

theorem cl8 {val : Nat → Int} {F : List Fact} (h : Holds val F) (Y : List SX) (hc : bAnd (F.all (noF 1)) (bAnd (Y.all (noA 1)) (bAnd (Nat.beq Y.length 1) (isTrue (decF F (phiC8 Y))))) = true)
    (hg : ∀ (v : Nat → Int) (hG : Holds v (F ++ [.ge (.a 1) 8])), @givesO (symsOf v _ hG sl0) Try.prog (orElse (tabO nameT) (@mTab (symsOf v _ hG sl0) (bitsM false (pat 8)))) 1000 (outs 8) Y [(11, [inst 8], [.i 0]), (19, [inst 8], [.i 0])] = true) : CheckQ8 val :=
  fun op zs hm hN hB => leafQC (tab := nameT) (me := (bitsM false (pat 8))) h Y phiC8 mixK (by kernel_rfl) (by intro x hx; simp only [List.mem_cons, List.not_mem_nil, or_false] at hx; rcases hx with rfl | rfl <;> exact wfN 8) (by kernel_rfl) (by kernel_rfl) (by kernel_rfl) (fun c sla _ _ => ⟨(tCons hN.1 (tCons hN.2.1 (tCons hN.2.2.1 (tCons hN.2.2.2 tNil)))), (mCons (me_of (op := op) (zs := zs) (fun w vs hv => pat_of (by omega) (nm_upd hm 1 (by omega) c) hv) rfl hB.1) (mCons (me_of (op := op) (zs := zs) (fun w vs hv => pat_of (by omega) (nm_upd hm 1 (by omega) c) hv) rfl hB.2) mNil))⟩) (bAnd_true hc).1 (bAnd_true (bAnd_true hc).2).1 (Nat.eq_of_beq_eq_true (bAnd_true (bAnd_true (bAnd_true hc).2).2).1) (bAnd_true (bAnd_true (bAnd_true hc).2).2).2 phiC8_holds (fun v hG sla hs => by subst hs; exact hg v hG)

abbrev CheckQ8z (val : Nat → Int) : Prop := ∀ op zs, NmN val op zs 8 → NameH val → ImmZ → val 5 = 0 → BitsR val op zs → QC Try.prog G1 1 8 (outs 8) [(11, [inst 8], [.i 0]), (19, [inst 8], [.i 0])] 1 (PhiC8 val) val

theorem cl8z {val : Nat → Int} {F : List Fact} (h : Holds val F) (Y : List SX) (hc : bAnd (F.all (noF 1)) (bAnd (Y.all (noA 1)) (bAnd (Nat.beq Y.length 1) (isTrue (decF F (phiC8 Y))))) = true)
    (hg : ∀ (v : Nat → Int) (hG : Holds v (F ++ [.ge (.a 1) 8])), @givesO (symsOf v _ hG sl0) Try.prog (orElse (tabO nameT) (@mTab (symsOf v _ hG sl0) (bitsM true (pat 8)))) 1000 (outs 8) Y [(11, [inst 8], [.i 0]), (19, [inst 8], [.i 0])] = true) : CheckQ8z val :=
  fun op zs hm hN _ hb0 hB => leafQC (tab := nameT) (me := (bitsM true (pat 8))) h Y phiC8 mixK (by kernel_rfl) (by intro x hx; simp only [List.mem_cons, List.not_mem_nil, or_false] at hx; rcases hx with rfl | rfl <;> exact wfN 8) (by kernel_rfl) (by kernel_rfl) (by kernel_rfl) (fun c sla _ _ => ⟨(tCons hN.1 (tCons hN.2.1 (tCons hN.2.2.1 (tCons hN.2.2.2 tNil)))), (mCons (me_of (op := op) (zs := zs) (fun w vs hv => pat_of (by omega) (nm_upd hm 1 (by omega) c) hv) rfl (by have := hB.1; rw [hb0] at this; exact this)) (mCons (me_of (op := op) (zs := zs) (fun w vs hv => pat_of (by omega) (nm_upd hm 1 (by omega) c) hv) rfl (by have := hB.2; rw [hb0] at this; exact this)) mNil))⟩) (bAnd_true hc).1 (bAnd_true (bAnd_true hc).2).1 (Nat.eq_of_beq_eq_true (bAnd_true (bAnd_true (bAnd_true hc).2).2).1) (bAnd_true (bAnd_true (bAnd_true hc).2).2).2 phiC8_holds (fun v hG sla hs => by subst hs; exact hg v hG)

abbrev BitsQ9 (val : Nat → Int) : Prop := NameH val → ArgH0 val → QC Try.prog G1 1 9 (outs 9) [(12, [inst 9], [.i 0, .b 1]), (18, [inst 9], [.i 0, .b 1])] 2 (fun _ => True) val

theorem bl9 {val : Nat → Int} {F : List Fact} (h : Holds val F) (Y : List SX) (hc : bAnd (F.all (noF 1)) (bAnd (Y.all (noA 1)) (Nat.beq Y.length 2)) = true)
    (hg : ∀ (v : Nat → Int) (hG : Holds v (F ++ [.ge (.a 1) 9])), @givesO (symsOf v _ hG sl0) Try.prog (orElse (tabO (nameT ++ argT0)) (@mTab (symsOf v _ hG sl0) [])) 1000 (outs 9) Y [(12, [inst 9], [.i 0, .b 1]), (18, [inst 9], [.i 0, .b 1])] = true) : BitsQ9 val :=
  fun hN h0 => leafQC (tab := (nameT ++ argT0)) (me := []) h Y (fun _ => .tt) mixK (by kernel_rfl) (by intro x hx; simp only [List.mem_cons, List.not_mem_nil, or_false] at hx; rcases hx with rfl | rfl <;> exact wfN 9) (by kernel_rfl) (by kernel_rfl) (by kernel_rfl) (fun c sla _ _ => ⟨(tCons hN.1 (tCons hN.2.1 (tCons hN.2.2.1 (tCons hN.2.2.2 (tCons h0.1 (tCons h0.2.1 (tCons h0.2.2.1 (tCons h0.2.2.2 tNil)))))))), mNil⟩) (bAnd_true hc).1 (bAnd_true (bAnd_true hc).2).1 (Nat.eq_of_beq_eq_true (bAnd_true (bAnd_true hc).2).2) rfl (fun _ => trivial) (fun v hG sla hs => by subst hs; exact hg v hG)

def PhiC9 (_ : Nat → Int) (Y : List Int) : Prop := Y.getD 0 0 ≠ 0

noncomputable abbrev phiC9 (Y : List SX) : SB := .not (.eq (Y.getD 0 (.c 0)) (.c 0))

theorem phiC9_holds {val : Nat → Int} {Y : List SX} (h : (phiC9 Y).eval val = true) : PhiC9 val (Y.map (SX.eval val)) := by
  simp only [SB.eval, getD_map_eval, SX.eval, Bool.not_eq_true', beq_eq_false_iff_ne, ne_eq] at h
  exact h

abbrev CheckQ9 (val : Nat → Int) : Prop := ∀ op zs, NmN val op zs 9 → NameH val → BitsR val op zs → QC Try.prog G1 1 9 (outs 9) [(11, [inst 9], [.i 0]), (19, [inst 9], [.i 0])] 1 (PhiC9 val) val

theorem cl9 {val : Nat → Int} {F : List Fact} (h : Holds val F) (Y : List SX) (hc : bAnd (F.all (noF 1)) (bAnd (Y.all (noA 1)) (bAnd (Nat.beq Y.length 1) (isTrue (decF F (phiC9 Y))))) = true)
    (hg : ∀ (v : Nat → Int) (hG : Holds v (F ++ [.ge (.a 1) 9])), @givesO (symsOf v _ hG sl0) Try.prog (orElse (tabO nameT) (@mTab (symsOf v _ hG sl0) (bitsM false (pat 9)))) 1000 (outs 9) Y [(11, [inst 9], [.i 0]), (19, [inst 9], [.i 0])] = true) : CheckQ9 val :=
  fun op zs hm hN hB => leafQC (tab := nameT) (me := (bitsM false (pat 9))) h Y phiC9 mixK (by kernel_rfl) (by intro x hx; simp only [List.mem_cons, List.not_mem_nil, or_false] at hx; rcases hx with rfl | rfl <;> exact wfN 9) (by kernel_rfl) (by kernel_rfl) (by kernel_rfl) (fun c sla _ _ => ⟨(tCons hN.1 (tCons hN.2.1 (tCons hN.2.2.1 (tCons hN.2.2.2 tNil)))), (mCons (me_of (op := op) (zs := zs) (fun w vs hv => pat_of (by omega) (nm_upd hm 1 (by omega) c) hv) rfl hB.1) (mCons (me_of (op := op) (zs := zs) (fun w vs hv => pat_of (by omega) (nm_upd hm 1 (by omega) c) hv) rfl hB.2) mNil))⟩) (bAnd_true hc).1 (bAnd_true (bAnd_true hc).2).1 (Nat.eq_of_beq_eq_true (bAnd_true (bAnd_true (bAnd_true hc).2).2).1) (bAnd_true (bAnd_true (bAnd_true hc).2).2).2 phiC9_holds (fun v hG sla hs => by subst hs; exact hg v hG)

abbrev CheckQ9z (val : Nat → Int) : Prop := ∀ op zs, NmN val op zs 9 → NameH val → ImmZ → val 5 = 0 → BitsR val op zs → QC Try.prog G1 1 9 (outs 9) [(11, [inst 9], [.i 0]), (19, [inst 9], [.i 0])] 1 (PhiC9 val) val

theorem cl9z {val : Nat → Int} {F : List Fact} (h : Holds val F) (Y : List SX) (hc : bAnd (F.all (noF 1)) (bAnd (Y.all (noA 1)) (bAnd (Nat.beq Y.length 1) (isTrue (decF F (phiC9 Y))))) = true)
    (hg : ∀ (v : Nat → Int) (hG : Holds v (F ++ [.ge (.a 1) 9])), @givesO (symsOf v _ hG sl0) Try.prog (orElse (tabO nameT) (@mTab (symsOf v _ hG sl0) (bitsM true (pat 9)))) 1000 (outs 9) Y [(11, [inst 9], [.i 0]), (19, [inst 9], [.i 0])] = true) : CheckQ9z val :=
  fun op zs hm hN _ hb0 hB => leafQC (tab := nameT) (me := (bitsM true (pat 9))) h Y phiC9 mixK (by kernel_rfl) (by intro x hx; simp only [List.mem_cons, List.not_mem_nil, or_false] at hx; rcases hx with rfl | rfl <;> exact wfN 9) (by kernel_rfl) (by kernel_rfl) (by kernel_rfl) (fun c sla _ _ => ⟨(tCons hN.1 (tCons hN.2.1 (tCons hN.2.2.1 (tCons hN.2.2.2 tNil)))), (mCons (me_of (op := op) (zs := zs) (fun w vs hv => pat_of (by omega) (nm_upd hm 1 (by omega) c) hv) rfl (by have := hB.1; rw [hb0] at this; exact this)) (mCons (me_of (op := op) (zs := zs) (fun w vs hv => pat_of (by omega) (nm_upd hm 1 (by omega) c) hv) rfl (by have := hB.2; rw [hb0] at this; exact this)) mNil))⟩) (bAnd_true hc).1 (bAnd_true (bAnd_true hc).2).1 (Nat.eq_of_beq_eq_true (bAnd_true (bAnd_true (bAnd_true hc).2).2).1) (bAnd_true (bAnd_true (bAnd_true hc).2).2).2 phiC9_holds (fun v hG sla hs => by subst hs; exact hg v hG)


end Go.Proofs.Ytndiilfjeconbaa.Tab
