/-
  What Canon gives: its forms, in names and in numbers; claims by lengths.
-/
import Derived.Test.YtndiilfjeconbaaInsH
namespace Go.Proofs.Ytndiilfjeconbaa.Tab
open Go.Sim
set_option maxRecDepth 100000

abbrev uV (o : AV) (m : Nat) : AV := .tup [.agg [o, .slu 0 m], ci 0]

abbrev lV (o : AV) (m : Nat) : AV := .tup [.agg [o, .sl 0 0 m m], ci 0]

abbrev nV (o : AV) : AV := .tup [.agg [o, nilS], ci 0]

abbrev eV (o : AV) : AV := .tup [.agg [o, .sl 0 0 0 0], ci 0]

abbrev uB (cs : List AV) : FB := ⟨27, true, 11, cs⟩

abbrev lB (cs : List AV) : FB := ⟨27, false, 11, cs⟩

/-- What the code gives: 6: three of two, 5: two that are turned, else so many. -/
def f16 (fm : Nat) (o : AV) (cs : List AV) : AV × List FB :=
  match fm with
  | 6 => (lV o 3, [lB cs])
  | 5 => (uV o 2, [uB cs])
  | m => (uV o m, [uB cs])

/-- What the document's gives. -/
def f17 (fm : Nat) (o : AV) (cs : List AV) : AV × List FB :=
  match fm with
  | 6 => (lV o 3, [lB cs])
  | 5 => (lV o 2, [lB cs])
  | m => (uV o m, [uB cs])

def fmLen (fm : Nat) : Nat :=
  match fm with
  | 6 => 3
  | 5 => 2
  | m => m

/-- Which forms there are of so many operands. -/
def fmB (n fm : Nat) : Bool := Nat.beq fm n || (Nat.beq n 2 && (Nat.beq fm 5 || Nat.beq fm 6))

/-- The canon of one operand: its kind, nine cells, its number. -/
abbrev rC (b l : Nat) : List SX := [.a b, .a (b + 21), .a (b + 22), .a (b + 23), .a (b + 24), .a (b + 25), .a (b + 26), .a (b + 27), .a (b + 28), .a (b + 29), .a l]

def sxs (Ys : List SX) : List AV := Ys.map fun x => .sx .i64 x

noncomputable abbrev formL (n fm : Nat) (Ys : List SX) : List (FuncId × List AV × AV × List FB) := [(16, [inst n], (f16 fm (a 0) (sxs Ys)).1, (f16 fm (a 0) (sxs Ys)).2), (17, [inst n], (f17 fm (a 0) (sxs Ys)).1, (f17 fm (a 0) (sxs Ys)).2)]

abbrev errA : AV := .tup [.agg [ci 0, nilS], a 7]

abbrev errL (n : Nat) : List (FuncId × List AV × AV × List FB) := [(16, [inst n], errA, []), (17, [inst n], errA, [])]

abbrev errZ : List (FuncId × List AV × AV × List FB) := [(16, [instN], errA, []), (17, [instN], errA, []), (16, [instE], errA, []), (17, [instE], errA, [])]

abbrev formZ : List (FuncId × List AV × AV × List FB) := [(16, [instN], nV (a 0), []), (17, [instN], nV (a 0), []), (16, [instE], eV (a 0), [lB []]), (17, [instE], nV (a 0), [])]

/-! In numbers. -/

noncomputable abbrev I0 : Syms := nameS (fun _ => 0) sl0

abbrev ko (op : Int) : AV := .v (.int .i64 op)

def cK (cells : List Int) : List AV := cells.map fun z => .v (.int .i64 z)

/-- What Canon gives of an instruction, and the document's. -/
def CanR (fm : Nat) (op : Int) (zs cells : List Int) : Prop := cells.length = 11 * fmLen fm ∧
  ∀ w x, SliV w x zs → @SummV I0 Try.prog 16 [insV op x] (f16 fm (ko op) (cK cells)).1 (f16 fm (ko op) (cK cells)).2 w ∧ @SummV I0 Try.prog 17 [insV op x] (f17 fm (ko op) (cK cells)).1 (f17 fm (ko op) (cK cells)).2 w

/-- Of an instruction without operands. -/
def CanZ (op : Int) : Prop := ∀ w, @SummV I0 Try.prog 16 [insV op (.slice none 0 0)] (nV (ko op)) [] w ∧ @SummV I0 Try.prog 17 [insV op (.slice none 0 0)] (nV (ko op)) [] w ∧
  ∀ ad cap, @SummV I0 Try.prog 16 [insV op (.slice (some ad) 0 cap)] (eV (ko op)) [lB []] w ∧ @SummV I0 Try.prog 17 [insV op (.slice (some ad) 0 cap)] (nV (ko op)) [] w

abbrev errK (e : Int) : Value := .tuple #[.agg #[.int .i64 0, .slice none 0 0], .int .i64 e]

theorem sxs_concs {I : Syms} {cells : List Int} {Ys : List SX} (h : Ys.map (SX.eval I.val) = cells) (E : Env) : @concs I E (sxs Ys) = @concs I0 E (cK cells) := by
  subst h
  rw [@concs_eq I, @concs_eq I0]
  simp only [sxs, cK, List.map_map]
  apply List.map_congr_left
  intro x _
  simp only [Function.comp_apply, conc]

theorem o_conc {I : Syms} {op : Int} (h : I.val 0 = op) (E : Env) : @conc I E (a 0) = @conc I0 E (ko op) := by
  subst h
  simp only [conc, SX.eval]

theorem uV_conc {I : Syms} {op : Int} (h : I.val 0 = op) (m : Nat) (E : Env) : @conc I E (uV (a 0) m) = @conc I0 E (uV (ko op) m) := by
  have := o_conc h E
  simp only [conc, concs] at this ⊢
  rw [this]

theorem lV_conc {I : Syms} {op : Int} (h : I.val 0 = op) (m : Nat) (E : Env) : @conc I E (lV (a 0) m) = @conc I0 E (lV (ko op) m) := by
  have := o_conc h E
  simp only [conc, concs] at this ⊢
  rw [this]

theorem one_blk {I J : Syms} {fb fb' : FB} (h : fb.elem = fb'.elem ∧ fb.grown = fb'.grown ∧ fb.s = fb'.s ∧ ∀ E, @concs I E fb.cells = @concs J E fb'.cells) : ∀ (k : Nat) (x x' : FB), [fb][k]? = some x → [fb'][k]? = some x' → x.elem = x'.elem ∧ x.grown = x'.grown ∧ x.s = x'.s ∧ ∀ E, @concs I E x.cells = @concs J E x'.cells := by
  intro k x x' h1 h2
  cases k with
  | zero =>
    simp only [List.getElem?_cons_zero, Option.some.injEq] at h1 h2
    subst h1 h2
    exact h
  | succ k => simp at h1

theorem u_congr {I : Syms} {f : FuncId} {vs : List Value} {w : World} {op : Int} {cells : List Int} {Ys : List SX} {m : Nat} (h0 : I.val 0 = op) (hY : Ys.map (SX.eval I.val) = cells) (h : @SummV I Try.prog f vs (uV (a 0) m) [uB (sxs Ys)] w) :
    @SummV I0 Try.prog f vs (uV (ko op) m) [uB (cK cells)] w := summV_congr (bs := [uB (sxs Ys)]) (bs' := [uB (cK cells)]) (uV_conc h0 m) rfl (one_blk (fb := uB (sxs Ys)) (fb' := uB (cK cells)) ⟨rfl, rfl, rfl, sxs_concs hY⟩) h

theorem l_congr {I : Syms} {f : FuncId} {vs : List Value} {w : World} {op : Int} {cells : List Int} {Ys : List SX} {m : Nat} (h0 : I.val 0 = op) (hY : Ys.map (SX.eval I.val) = cells) (h : @SummV I Try.prog f vs (lV (a 0) m) [lB (sxs Ys)] w) :
    @SummV I0 Try.prog f vs (lV (ko op) m) [lB (cK cells)] w := summV_congr (bs := [lB (sxs Ys)]) (bs' := [lB (cK cells)]) (lV_conc h0 m) rfl (one_blk (fb := lB (sxs Ys)) (fb' := lB (cK cells)) ⟨rfl, rfl, rfl, sxs_concs hY⟩) h

theorem f16_congr {I : Syms} {f : FuncId} {vs : List Value} {w : World} {op : Int} {cells : List Int} {Ys : List SX} (fm : Nat) (h0 : I.val 0 = op) (hY : Ys.map (SX.eval I.val) = cells) (h : @SummV I Try.prog f vs (f16 fm (a 0) (sxs Ys)).1 (f16 fm (a 0) (sxs Ys)).2 w) :
    @SummV I0 Try.prog f vs (f16 fm (ko op) (cK cells)).1 (f16 fm (ko op) (cK cells)).2 w := by
  unfold f16 at h ⊢
  split at h
  · exact l_congr h0 hY h
  · exact u_congr h0 hY h
  · exact u_congr h0 hY h

theorem f17_congr {I : Syms} {f : FuncId} {vs : List Value} {w : World} {op : Int} {cells : List Int} {Ys : List SX} (fm : Nat) (h0 : I.val 0 = op) (hY : Ys.map (SX.eval I.val) = cells) (h : @SummV I Try.prog f vs (f17 fm (a 0) (sxs Ys)).1 (f17 fm (a 0) (sxs Ys)).2 w) :
    @SummV I0 Try.prog f vs (f17 fm (ko op) (cK cells)).1 (f17 fm (ko op) (cK cells)).2 w := by
  unfold f17 at h ⊢
  split at h
  · exact l_congr h0 hY h
  · exact l_congr h0 hY h
  · exact u_congr h0 hY h

/-- From names to numbers. -/
theorem canN {n : Nat} (hn : 0 < n) (h9 : n ≤ 9) {val : Nat → Int} {op : Int} {zs : List Int} (hm : NmN val op zs n) {fm : Nat} {Ys : List SX} (hlen : Ys.length = 11 * fmLen fm) (hy : Ys.all (noA 1) = true) (h : QM Try.prog G1 1 n (outs n) (formL n fm Ys) val) :
    CanR fm op zs (Ys.map (SX.eval val)) := by
  refine ⟨by rw [List.length_map, hlen], fun w s hs => ?_⟩
  obtain ⟨b, off, cap, rfl, g1, g2, g3⟩ := sli_pos hn hm.2.1 hs
  have hY : Ys.map (SX.eval (Sim.upd val 1 cap)) = Ys.map (SX.eval val) := by
    apply List.map_congr_left
    intro y hy'
    exact eval_upd val 1 cap y (List.all_eq_true.1 hy y hy')
  have h0 : Sim.upd val 1 cap 0 = op := (nm_upd hm 1 (by omega) cap).1
  have k1 := h cap sl0 (by omega) rfl _ (List.mem_cons_self) ⟨fun _ => b, fun _ => off⟩ w (outs_ok h9 (nm_upd hm 1 (by omega) cap) g2 g3)
  have k2 := h cap sl0 (by omega) rfl _ (List.mem_cons_of_mem _ List.mem_cons_self) ⟨fun _ => b, fun _ => off⟩ w (outs_ok h9 (nm_upd hm 1 (by omega) cap) g2 g3)
  have ei : @concs (nameS (Sim.upd val 1 cap) sl0) ⟨fun _ => b, fun _ => off⟩ [inst n] = [insV op (.slice (some ⟨b, off, none⟩) n cap)] := by
    have := inst_conc (n := n) (b := b) (off := off) (cap := cap) (sla := sl0) hm.1
    exact congrArg Array.toList this
  rw [ei] at k1 k2
  exact ⟨f16_congr (I := nameS (Sim.upd val 1 cap) sl0) fm h0 hY k1, f17_congr (I := nameS (Sim.upd val 1 cap) sl0) fm h0 hY k2⟩

/-- A plain result out of such memory. -/
theorem plain_of {I : Syms} {f : FuncId} {vs : List Value} {v0 : AV} {v : Value} {w : World} (hp : ∀ E, @conc I E v0 = v) (h : @SummV I Try.prog f vs v0 [] w) : Calls Try.prog f vs.toArray w fun e w' => e = .returned v ∧ RowKit.Below w.heap.size w w' :=
  Calls.mono h fun e w' he => by
    obtain ⟨E, h1, _, _, h4⟩ := he
    exact ⟨by rw [h1, hp], h4⟩

theorem errN {n : Nat} (hn : 0 < n) (h9 : n ≤ 9) {val : Nat → Int} {op : Int} {zs : List Int} (hm : NmN val op zs n) (h : QM Try.prog G1 1 n (outs n) (errL n) val) : RI 16 op zs (errK (val 7)) ∧ RI 17 op zs (errK (val 7)) := by
  have key : ∀ x ∈ errL n, RI x.1 op zs (errK (val 7)) := by
    intro x hx w s hs
    obtain ⟨b, off, cap, rfl, g1, g2, g3⟩ := sli_pos hn hm.2.1 hs
    have k1 := h cap sl0 (by omega) rfl x hx ⟨fun _ => b, fun _ => off⟩ w (outs_ok h9 (nm_upd hm 1 (by omega) cap) g2 g3)
    have ei : @concs (nameS (Sim.upd val 1 cap) sl0) ⟨fun _ => b, fun _ => off⟩ [inst n] = [insV op (.slice (some ⟨b, off, none⟩) n cap)] := congrArg Array.toList (inst_conc (n := n) (b := b) (off := off) (cap := cap) (sla := sl0) hm.1)
    simp only [errL, List.mem_cons, List.not_mem_nil, or_false] at hx
    rcases hx with rfl | rfl <;> (rw [ei] at k1; exact plain_of (I := nameS (Sim.upd val 1 cap) sl0) (fun E => by simp only [conc, concs]; rfl) k1)
  exact ⟨key _ List.mem_cons_self, key _ (List.mem_cons_of_mem _ List.mem_cons_self)⟩

theorem instN_conc {val : Nat → Int} {op : Int} {sla : Nat → Option Addr × Nat} (h : val 0 = op) : @concs (nameS (Sim.upd val 39 0) sla) E0 [instN] = [insV op (.slice none 0 0)] := by
  subst h
  simp only [concs, conc]
  rfl

theorem instE_conc {val : Nat → Int} {op : Int} {ad : Addr} {cap : Nat} (h : val 0 = op) (h1 : val 1 = 0) : @concs (nameS (Sim.upd val 39 0) fun _ => (some ad, cap)) E0 [instE] = [insV op (.slice (some ad) 0 cap)] := by
  subst h
  simp only [concs, conc]
  show [Value.agg #[.int .i64 (val 0), .slice (some ad) (val 1).toNat cap]] = _
  rw [h1]
  rfl

theorem errZ_of {val : Nat → Int} {op : Int} (h0 : val 0 = op) (h1 : val 1 = 0) (h : QM Try.prog GZ 39 0 [] errZ val) : RI 16 op [] (errK (val 7)) ∧ RI 17 op [] (errK (val 7)) := by
  have key : ∀ f, (f, [instN], errA, ([] : List FB)) ∈ errZ → (f, [instE], errA, ([] : List FB)) ∈ errZ → RI f op [] (errK (val 7)) := by
    intro f hN hE w s hs
    rcases hs with ⟨_, rfl | ⟨ad, cap, rfl⟩⟩ | ⟨b, off, len, cap, g0, _, g2, _⟩
    · have k := h 0 (fun _ => (some ⟨0, 0, none⟩, 0)) (Int.le_refl _) ⟨_, _, rfl⟩ _ hN E0 w (out0 _ _ _)
      rw [instN_conc h0] at k
      exact plain_of (I := nameS (Sim.upd val 39 0) fun _ => (some ⟨0, 0, none⟩, 0)) (fun E => by simp only [conc, concs]; rfl) k
    · have k := h 0 (fun _ => (some ad, cap)) (Int.le_refl _) ⟨_, _, rfl⟩ _ hE E0 w (out0 _ _ _)
      rw [instE_conc h0 h1] at k
      exact plain_of (I := nameS (Sim.upd val 39 0) fun _ => (some ad, cap)) (fun E => by simp only [conc, concs]; rfl) k
    · simp at g2; omega
  exact ⟨key 16 (by simp [errZ]) (by simp [errZ]), key 17 (by simp [errZ]) (by simp [errZ])⟩

theorem nV_congr {I : Syms} {f : FuncId} {vs : List Value} {w : World} {op : Int} (h0 : I.val 0 = op) (h : @SummV I Try.prog f vs (nV (a 0)) [] w) : @SummV I0 Try.prog f vs (nV (ko op)) [] w :=
  summV_congr (fun E => by
    have := o_conc h0 E
    simp only [conc, concs] at this ⊢
    rw [this]) rfl (fun k fb fb' hk => by simp at hk) h

theorem eV_congr {I : Syms} {f : FuncId} {vs : List Value} {w : World} {op : Int} (h0 : I.val 0 = op) (h : @SummV I Try.prog f vs (eV (a 0)) [lB []] w) : @SummV I0 Try.prog f vs (eV (ko op)) [lB []] w :=
  summV_congr (fun E => by
    have := o_conc h0 E
    simp only [conc, concs] at this ⊢
    rw [this]) rfl (one_blk ⟨rfl, rfl, rfl, fun E => by simp [concs]⟩) h

theorem canZ_of {val : Nat → Int} {op : Int} (h0 : val 0 = op) (h1 : val 1 = 0) (h : QM Try.prog GZ 39 0 [] formZ val) : CanZ op := by
  intro w
  have kN := fun x (hx : x ∈ formZ) => h 0 (fun _ => (some ⟨0, 0, none⟩, 0)) (Int.le_refl _) ⟨_, _, rfl⟩ x hx E0 w (out0 _ _ _)
  refine ⟨?_, ?_, fun ad cap => ⟨?_, ?_⟩⟩
  · have k := kN (16, [instN], nV (a 0), []) (by simp [formZ])
    rw [instN_conc h0] at k
    exact nV_congr (I := nameS (Sim.upd val 39 0) fun _ => (some ⟨0, 0, none⟩, 0)) h0 k
  · have k := kN (17, [instN], nV (a 0), []) (by simp [formZ])
    rw [instN_conc h0] at k
    exact nV_congr (I := nameS (Sim.upd val 39 0) fun _ => (some ⟨0, 0, none⟩, 0)) h0 k
  · have k := h 0 (fun _ => (some ad, cap)) (Int.le_refl _) ⟨_, _, rfl⟩ (16, [instE], eV (a 0), [lB []]) (by simp [formZ]) E0 w (out0 _ _ _)
    rw [instE_conc h0 h1] at k
    exact eV_congr (I := nameS (Sim.upd val 39 0) fun _ => (some ad, cap)) h0 k
  · have k := h 0 (fun _ => (some ad, cap)) (Int.le_refl _) ⟨_, _, rfl⟩ (17, [instE], nV (a 0), []) (by simp [formZ]) E0 w (out0 _ _ _)
    rw [instE_conc h0 h1] at k
    exact nV_congr (I := nameS (Sim.upd val 39 0) fun _ => (some ad, cap)) h0 k

/-! Claims. -/

abbrev CanEQ0 (val : Nat → Int) : Prop := ∀ op zs, NmN val op zs 0 → CheckR val op zs → QM Try.prog GZ 39 0 [] errZ val

theorem ce0 {val : Nat → Int} {F : List Fact} (h : Holds val F) (hn : F.all (noF 39) = true)
    (hg : ∀ (v : Nat → Int) (hG : Holds v (F ++ [.ge (.a 39) 0])) (ad : Addr) (cap : Nat), @fitsL (symsOf v _ hG fun _ => (some ad, cap)) Try.prog (orElse (tabO []) (@mTab (symsOf v _ hG fun _ => (some ad, cap)) (checkM patN ++ checkM patE))) 1000 [] errZ [[], [], [], []] = true) : CanEQ0 val :=
  fun op zs hm hC => by
    obtain rfl : zs = [] := by have := hm.2.1; simpa using this
    exact leafQM (tab := []) (me := (checkM patN ++ checkM patE)) h [[], [], [], []] mixK (by kernel_rfl) (by intro x hx; simp only [List.mem_cons, List.not_mem_nil, or_false] at hx; rcases hx with rfl | rfl | rfl | rfl <;> first | exact wfZ true | exact wfZ false) (by kernel_rfl) (by kernel_rfl) (by kernel_rfl) (fun c sla _ _ => ⟨tNil, (mCons (me_of (op := op) (zs := []) (fun w vs hv => let ⟨x, q1, q2, _⟩ := patN_of (nm_upd hm 39 (by omega) c).1 hv; ⟨x, q1, q2⟩) rfl hC.1) (mCons (me_of (op := op) (zs := []) (fun w vs hv => let ⟨x, q1, q2, _⟩ := patN_of (nm_upd hm 39 (by omega) c).1 hv; ⟨x, q1, q2⟩) rfl hC.2) (mCons (me_of (op := op) (zs := []) (fun w vs hv => let ⟨x, q1, q2, _⟩ := patE_of (nm_upd hm 39 (by omega) c).1 hv; ⟨x, q1, q2⟩) rfl hC.1) (mCons (me_of (op := op) (zs := []) (fun w vs hv => let ⟨x, q1, q2, _⟩ := patE_of (nm_upd hm 39 (by omega) c).1 hv; ⟨x, q1, q2⟩) rfl hC.2) mNil))))⟩) hn (fun v hG sla hs => by obtain ⟨ad, cap, rfl⟩ := hs; exact hg v hG ad cap)

abbrev CanQ0_0 (val : Nat → Int) : Prop := ∀ op zs, NmN val op zs 0 → CheckR val op zs → BitsR val op zs → QM Try.prog GZ 39 0 [] formZ val

theorem co0_0 {val : Nat → Int} {F : List Fact} (h : Holds val F) (ids : List (List Nat)) (hn : F.all (noF 39) = true)
    (hg : ∀ (v : Nat → Int) (hG : Holds v (F ++ [.ge (.a 39) 0])) (ad : Addr) (cap : Nat), @fitsL (symsOf v _ hG fun _ => (some ad, cap)) Try.prog (orElse (tabO []) (@mTab (symsOf v _ hG fun _ => (some ad, cap)) ((checkM patN ++ bitsM false patN) ++ (checkM patE ++ bitsM false patE)))) 1000 [] formZ ids = true) : CanQ0_0 val :=
  fun op zs hm hC hB => by
    obtain rfl : zs = [] := by have := hm.2.1; simpa using this
    exact leafQM (tab := []) (me := ((checkM patN ++ bitsM false patN) ++ (checkM patE ++ bitsM false patE))) h ids mixK (by kernel_rfl) (by intro x hx; simp only [List.mem_cons, List.not_mem_nil, or_false] at hx; rcases hx with rfl | rfl | rfl | rfl <;> first | exact wfZ true | exact wfZ false) (by kernel_rfl) (by kernel_rfl) (by kernel_rfl) (fun c sla _ _ => ⟨tNil, (mCons (me_of (op := op) (zs := []) (fun w vs hv => let ⟨x, q1, q2, _⟩ := patN_of (nm_upd hm 39 (by omega) c).1 hv; ⟨x, q1, q2⟩) rfl hC.1) (mCons (me_of (op := op) (zs := []) (fun w vs hv => let ⟨x, q1, q2, _⟩ := patN_of (nm_upd hm 39 (by omega) c).1 hv; ⟨x, q1, q2⟩) rfl hC.2) (mCons (me_of (op := op) (zs := []) (fun w vs hv => let ⟨x, q1, q2, _⟩ := patN_of (nm_upd hm 39 (by omega) c).1 hv; ⟨x, q1, q2⟩) rfl hB.1) (mCons (me_of (op := op) (zs := []) (fun w vs hv => let ⟨x, q1, q2, _⟩ := patN_of (nm_upd hm 39 (by omega) c).1 hv; ⟨x, q1, q2⟩) rfl hB.2) (mCons (me_of (op := op) (zs := []) (fun w vs hv => let ⟨x, q1, q2, _⟩ := patE_of (nm_upd hm 39 (by omega) c).1 hv; ⟨x, q1, q2⟩) rfl hC.1) (mCons (me_of (op := op) (zs := []) (fun w vs hv => let ⟨x, q1, q2, _⟩ := patE_of (nm_upd hm 39 (by omega) c).1 hv; ⟨x, q1, q2⟩) rfl hC.2) (mCons (me_of (op := op) (zs := []) (fun w vs hv => let ⟨x, q1, q2, _⟩ := patE_of (nm_upd hm 39 (by omega) c).1 hv; ⟨x, q1, q2⟩) rfl hB.1) (mCons (me_of (op := op) (zs := []) (fun w vs hv => let ⟨x, q1, q2, _⟩ := patE_of (nm_upd hm 39 (by omega) c).1 hv; ⟨x, q1, q2⟩) rfl hB.2) mNil))))))))⟩) hn (fun v hG sla hs => by obtain ⟨ad, cap, rfl⟩ := hs; exact hg v hG ad cap)

abbrev CanEQ1 (val : Nat → Int) : Prop := ∀ op zs, NmN val op zs 1 → CheckR val op zs → QM Try.prog G1 1 1 (outs 1) (errL 1) val

theorem ce1 {val : Nat → Int} {F : List Fact} (h : Holds val F) (hn : F.all (noF 1) = true)
    (hg : ∀ (v : Nat → Int) (hG : Holds v (F ++ [.ge (.a 1) 1])), @fitsL (symsOf v _ hG sl0) Try.prog (orElse (tabO []) (@mTab (symsOf v _ hG sl0) (checkM (pat 1)))) 1000 (outs 1) (errL 1) [[], []] = true) : CanEQ1 val :=
  fun op zs hm hC => leafQM (tab := []) (me := (checkM (pat 1))) h [[], []] mixK (by kernel_rfl) (by intro x hx; simp only [List.mem_cons, List.not_mem_nil, or_false] at hx; rcases hx with rfl | rfl <;> exact wfN 1) (by kernel_rfl) (by kernel_rfl) (by kernel_rfl) (fun c sla _ _ => ⟨tNil, (mCons (me_of (op := op) (zs := zs) (fun w vs hv => pat_of (by omega) (nm_upd hm 1 (by omega) c) hv) rfl hC.1) (mCons (me_of (op := op) (zs := zs) (fun w vs hv => pat_of (by omega) (nm_upd hm 1 (by omega) c) hv) rfl hC.2) mNil))⟩) hn (fun v hG sla hs => by subst hs; exact hg v hG)

abbrev CanQ1_0 (val : Nat → Int) : Prop := ∀ op zs, NmN val op zs 1 → CheckR val op zs → BitsR val op zs → CanH0 val → ∃ (fm : Nat) (Ys : List SX), Ys.length = 11 * fmLen fm ∧ fmB 1 fm = true ∧ Ys.all (noA 1) = true ∧ QM Try.prog G1 1 1 (outs 1) (formL 1 fm Ys) val

theorem co1_0 {val : Nat → Int} {F : List Fact} (h : Holds val F) (fm : Nat) (Ys : List SX) (ids : List (List Nat)) (hc : bAnd (Nat.beq Ys.length (11 * fmLen fm)) (bAnd (fmB 1 fm) (bAnd (Ys.all (noA 1)) (F.all (noF 1)))) = true)
    (hg : ∀ (v : Nat → Int) (hG : Holds v (F ++ [.ge (.a 1) 1])), @fitsL (symsOf v _ hG sl0) Try.prog (orElse (tabO (canT0)) (@mTab (symsOf v _ hG sl0) ((checkM (pat 1) ++ bitsM false (pat 1))))) 1000 (outs 1) (formL 1 fm Ys) ids = true) : CanQ1_0 val :=
  fun op zs hm hC hB h0 => ⟨fm, Ys, Nat.eq_of_beq_eq_true (bAnd_true hc).1, (bAnd_true (bAnd_true hc).2).1, (bAnd_true (bAnd_true (bAnd_true hc).2).2).1, leafQM (tab := (canT0)) (me := ((checkM (pat 1) ++ bitsM false (pat 1)))) h ids mixK (by kernel_rfl) (by intro x hx; simp only [List.mem_cons, List.not_mem_nil, or_false] at hx; rcases hx with rfl | rfl <;> exact wfN 1) (by kernel_rfl) (by kernel_rfl) (by kernel_rfl) (fun c sla _ _ => ⟨(tCons h0.1 (tCons h0.2 tNil)), (mCons (me_of (op := op) (zs := zs) (fun w vs hv => pat_of (by omega) (nm_upd hm 1 (by omega) c) hv) rfl hC.1) (mCons (me_of (op := op) (zs := zs) (fun w vs hv => pat_of (by omega) (nm_upd hm 1 (by omega) c) hv) rfl hC.2) (mCons (me_of (op := op) (zs := zs) (fun w vs hv => pat_of (by omega) (nm_upd hm 1 (by omega) c) hv) rfl hB.1) (mCons (me_of (op := op) (zs := zs) (fun w vs hv => pat_of (by omega) (nm_upd hm 1 (by omega) c) hv) rfl hB.2) mNil))))⟩) (bAnd_true (bAnd_true (bAnd_true hc).2).2).2 (fun v hG sla hs => by subst hs; exact hg v hG)⟩

abbrev CanQ1_1 (val : Nat → Int) : Prop := ∀ op zs, NmN val op zs 1 → CheckR val op zs → BitsR val op zs → CanH0i val → ∃ (fm : Nat) (Ys : List SX), Ys.length = 11 * fmLen fm ∧ fmB 1 fm = true ∧ Ys.all (noA 1) = true ∧ QM Try.prog G1 1 1 (outs 1) (formL 1 fm Ys) val

theorem co1_1 {val : Nat → Int} {F : List Fact} (h : Holds val F) (fm : Nat) (Ys : List SX) (ids : List (List Nat)) (hc : bAnd (Nat.beq Ys.length (11 * fmLen fm)) (bAnd (fmB 1 fm) (bAnd (Ys.all (noA 1)) (F.all (noF 1)))) = true)
    (hg : ∀ (v : Nat → Int) (hG : Holds v (F ++ [.ge (.a 1) 1])), @fitsL (symsOf v _ hG sl0) Try.prog (orElse (tabO (canT0i)) (@mTab (symsOf v _ hG sl0) ((checkM (pat 1) ++ bitsM false (pat 1))))) 1000 (outs 1) (formL 1 fm Ys) ids = true) : CanQ1_1 val :=
  fun op zs hm hC hB h0 => ⟨fm, Ys, Nat.eq_of_beq_eq_true (bAnd_true hc).1, (bAnd_true (bAnd_true hc).2).1, (bAnd_true (bAnd_true (bAnd_true hc).2).2).1, leafQM (tab := (canT0i)) (me := ((checkM (pat 1) ++ bitsM false (pat 1)))) h ids mixK (by kernel_rfl) (by intro x hx; simp only [List.mem_cons, List.not_mem_nil, or_false] at hx; rcases hx with rfl | rfl <;> exact wfN 1) (by kernel_rfl) (by kernel_rfl) (by kernel_rfl) (fun c sla _ _ => ⟨(tCons h0.1 (tCons h0.2.1 (tCons h0.2.2.1 (tCons h0.2.2.2 tNil)))), (mCons (me_of (op := op) (zs := zs) (fun w vs hv => pat_of (by omega) (nm_upd hm 1 (by omega) c) hv) rfl hC.1) (mCons (me_of (op := op) (zs := zs) (fun w vs hv => pat_of (by omega) (nm_upd hm 1 (by omega) c) hv) rfl hC.2) (mCons (me_of (op := op) (zs := zs) (fun w vs hv => pat_of (by omega) (nm_upd hm 1 (by omega) c) hv) rfl hB.1) (mCons (me_of (op := op) (zs := zs) (fun w vs hv => pat_of (by omega) (nm_upd hm 1 (by omega) c) hv) rfl hB.2) mNil))))⟩) (bAnd_true (bAnd_true (bAnd_true hc).2).2).2 (fun v hG sla hs => by subst hs; exact hg v hG)⟩

abbrev CanEQ2 (val : Nat → Int) : Prop := ∀ op zs, NmN val op zs 2 → CheckR val op zs → QM Try.prog G1 1 2 (outs 2) (errL 2) val

theorem ce2 {val : Nat → Int} {F : List Fact} (h : Holds val F) (hn : F.all (noF 1) = true)
    (hg : ∀ (v : Nat → Int) (hG : Holds v (F ++ [.ge (.a 1) 2])), @fitsL (symsOf v _ hG sl0) Try.prog (orElse (tabO []) (@mTab (symsOf v _ hG sl0) (checkM (pat 2)))) 1000 (outs 2) (errL 2) [[], []] = true) : CanEQ2 val :=
  fun op zs hm hC => leafQM (tab := []) (me := (checkM (pat 2))) h [[], []] mixK (by kernel_rfl) (by intro x hx; simp only [List.mem_cons, List.not_mem_nil, or_false] at hx; rcases hx with rfl | rfl <;> exact wfN 2) (by kernel_rfl) (by kernel_rfl) (by kernel_rfl) (fun c sla _ _ => ⟨tNil, (mCons (me_of (op := op) (zs := zs) (fun w vs hv => pat_of (by omega) (nm_upd hm 1 (by omega) c) hv) rfl hC.1) (mCons (me_of (op := op) (zs := zs) (fun w vs hv => pat_of (by omega) (nm_upd hm 1 (by omega) c) hv) rfl hC.2) mNil))⟩) hn (fun v hG sla hs => by subst hs; exact hg v hG)

abbrev CanQ2_0 (val : Nat → Int) : Prop := ∀ op zs, NmN val op zs 2 → CheckR val op zs → BitsR val op zs → CanH0 val → CanH1 val → ∃ (fm : Nat) (Ys : List SX), Ys.length = 11 * fmLen fm ∧ fmB 2 fm = true ∧ Ys.all (noA 1) = true ∧ QM Try.prog G1 1 2 (outs 2) (formL 2 fm Ys) val

theorem co2_0 {val : Nat → Int} {F : List Fact} (h : Holds val F) (fm : Nat) (Ys : List SX) (ids : List (List Nat)) (hc : bAnd (Nat.beq Ys.length (11 * fmLen fm)) (bAnd (fmB 2 fm) (bAnd (Ys.all (noA 1)) (F.all (noF 1)))) = true)
    (hg : ∀ (v : Nat → Int) (hG : Holds v (F ++ [.ge (.a 1) 2])), @fitsL (symsOf v _ hG sl0) Try.prog (orElse (tabO (canT0 ++ canT1)) (@mTab (symsOf v _ hG sl0) ((checkM (pat 2) ++ bitsM false (pat 2))))) 1000 (outs 2) (formL 2 fm Ys) ids = true) : CanQ2_0 val :=
  fun op zs hm hC hB h0 h1 => ⟨fm, Ys, Nat.eq_of_beq_eq_true (bAnd_true hc).1, (bAnd_true (bAnd_true hc).2).1, (bAnd_true (bAnd_true (bAnd_true hc).2).2).1, leafQM (tab := (canT0 ++ canT1)) (me := ((checkM (pat 2) ++ bitsM false (pat 2)))) h ids mixK (by kernel_rfl) (by intro x hx; simp only [List.mem_cons, List.not_mem_nil, or_false] at hx; rcases hx with rfl | rfl <;> exact wfN 2) (by kernel_rfl) (by kernel_rfl) (by kernel_rfl) (fun c sla _ _ => ⟨(tCons h0.1 (tCons h0.2 (tCons h1.1 (tCons h1.2 tNil)))), (mCons (me_of (op := op) (zs := zs) (fun w vs hv => pat_of (by omega) (nm_upd hm 1 (by omega) c) hv) rfl hC.1) (mCons (me_of (op := op) (zs := zs) (fun w vs hv => pat_of (by omega) (nm_upd hm 1 (by omega) c) hv) rfl hC.2) (mCons (me_of (op := op) (zs := zs) (fun w vs hv => pat_of (by omega) (nm_upd hm 1 (by omega) c) hv) rfl hB.1) (mCons (me_of (op := op) (zs := zs) (fun w vs hv => pat_of (by omega) (nm_upd hm 1 (by omega) c) hv) rfl hB.2) mNil))))⟩) (bAnd_true (bAnd_true (bAnd_true hc).2).2).2 (fun v hG sla hs => by subst hs; exact hg v hG)⟩

abbrev CanQ2_1 (val : Nat → Int) : Prop := ∀ op zs, NmN val op zs 2 → CheckR val op zs → BitsR val op zs → CanH0i val → CanH1 val → ∃ (fm : Nat) (Ys : List SX), Ys.length = 11 * fmLen fm ∧ fmB 2 fm = true ∧ Ys.all (noA 1) = true ∧ QM Try.prog G1 1 2 (outs 2) (formL 2 fm Ys) val

theorem co2_1 {val : Nat → Int} {F : List Fact} (h : Holds val F) (fm : Nat) (Ys : List SX) (ids : List (List Nat)) (hc : bAnd (Nat.beq Ys.length (11 * fmLen fm)) (bAnd (fmB 2 fm) (bAnd (Ys.all (noA 1)) (F.all (noF 1)))) = true)
    (hg : ∀ (v : Nat → Int) (hG : Holds v (F ++ [.ge (.a 1) 2])), @fitsL (symsOf v _ hG sl0) Try.prog (orElse (tabO (canT0i ++ canT1)) (@mTab (symsOf v _ hG sl0) ((checkM (pat 2) ++ bitsM false (pat 2))))) 1000 (outs 2) (formL 2 fm Ys) ids = true) : CanQ2_1 val :=
  fun op zs hm hC hB h0 h1 => ⟨fm, Ys, Nat.eq_of_beq_eq_true (bAnd_true hc).1, (bAnd_true (bAnd_true hc).2).1, (bAnd_true (bAnd_true (bAnd_true hc).2).2).1, leafQM (tab := (canT0i ++ canT1)) (me := ((checkM (pat 2) ++ bitsM false (pat 2)))) h ids mixK (by kernel_rfl) (by intro x hx; simp only [List.mem_cons, List.not_mem_nil, or_false] at hx; rcases hx with rfl | rfl <;> exact wfN 2) (by kernel_rfl) (by kernel_rfl) (by kernel_rfl) (fun c sla _ _ => ⟨(tCons h0.1 (tCons h0.2.1 (tCons h0.2.2.1 (tCons h0.2.2.2 (tCons h1.1 (tCons h1.2 tNil)))))), (mCons (me_of (op := op) (zs := zs) (fun w vs hv => pat_of (by omega) (nm_upd hm 1 (by omega) c) hv) rfl hC.1) (mCons (me_of (op := op) (zs := zs) (fun w vs hv => pat_of (by omega) (nm_upd hm 1 (by omega) c) hv) rfl hC.2) (mCons (me_of (op := op) (zs := zs) (fun w vs hv => pat_of (by omega) (nm_upd hm 1 (by omega) c) hv) rfl hB.1) (mCons (me_of (op := op) (zs := zs) (fun w vs hv => pat_of (by omega) (nm_upd hm 1 (by omega) c) hv) rfl hB.2) mNil))))⟩) (bAnd_true (bAnd_true (bAnd_true hc).2).2).2 (fun v hG sla hs => by subst hs; exact hg v hG)⟩

abbrev CanQ2_2 (val : Nat → Int) : Prop := ∀ op zs, NmN val op zs 2 → CheckR val op zs → BitsR val op zs → CanH0 val → CanH1i val → ∃ (fm : Nat) (Ys : List SX), Ys.length = 11 * fmLen fm ∧ fmB 2 fm = true ∧ Ys.all (noA 1) = true ∧ QM Try.prog G1 1 2 (outs 2) (formL 2 fm Ys) val

theorem co2_2 {val : Nat → Int} {F : List Fact} (h : Holds val F) (fm : Nat) (Ys : List SX) (ids : List (List Nat)) (hc : bAnd (Nat.beq Ys.length (11 * fmLen fm)) (bAnd (fmB 2 fm) (bAnd (Ys.all (noA 1)) (F.all (noF 1)))) = true)
    (hg : ∀ (v : Nat → Int) (hG : Holds v (F ++ [.ge (.a 1) 2])), @fitsL (symsOf v _ hG sl0) Try.prog (orElse (tabO (canT0 ++ canT1i)) (@mTab (symsOf v _ hG sl0) ((checkM (pat 2) ++ bitsM false (pat 2))))) 1000 (outs 2) (formL 2 fm Ys) ids = true) : CanQ2_2 val :=
  fun op zs hm hC hB h0 h1 => ⟨fm, Ys, Nat.eq_of_beq_eq_true (bAnd_true hc).1, (bAnd_true (bAnd_true hc).2).1, (bAnd_true (bAnd_true (bAnd_true hc).2).2).1, leafQM (tab := (canT0 ++ canT1i)) (me := ((checkM (pat 2) ++ bitsM false (pat 2)))) h ids mixK (by kernel_rfl) (by intro x hx; simp only [List.mem_cons, List.not_mem_nil, or_false] at hx; rcases hx with rfl | rfl <;> exact wfN 2) (by kernel_rfl) (by kernel_rfl) (by kernel_rfl) (fun c sla _ _ => ⟨(tCons h0.1 (tCons h0.2 (tCons h1.1 (tCons h1.2.1 (tCons h1.2.2.1 (tCons h1.2.2.2 tNil)))))), (mCons (me_of (op := op) (zs := zs) (fun w vs hv => pat_of (by omega) (nm_upd hm 1 (by omega) c) hv) rfl hC.1) (mCons (me_of (op := op) (zs := zs) (fun w vs hv => pat_of (by omega) (nm_upd hm 1 (by omega) c) hv) rfl hC.2) (mCons (me_of (op := op) (zs := zs) (fun w vs hv => pat_of (by omega) (nm_upd hm 1 (by omega) c) hv) rfl hB.1) (mCons (me_of (op := op) (zs := zs) (fun w vs hv => pat_of (by omega) (nm_upd hm 1 (by omega) c) hv) rfl hB.2) mNil))))⟩) (bAnd_true (bAnd_true (bAnd_true hc).2).2).2 (fun v hG sla hs => by subst hs; exact hg v hG)⟩

abbrev CanQ2_3 (val : Nat → Int) : Prop := ∀ op zs, NmN val op zs 2 → CheckR val op zs → BitsR val op zs → CanH0i val → CanH1i val → ∃ (fm : Nat) (Ys : List SX), Ys.length = 11 * fmLen fm ∧ fmB 2 fm = true ∧ Ys.all (noA 1) = true ∧ QM Try.prog G1 1 2 (outs 2) (formL 2 fm Ys) val

theorem co2_3 {val : Nat → Int} {F : List Fact} (h : Holds val F) (fm : Nat) (Ys : List SX) (ids : List (List Nat)) (hc : bAnd (Nat.beq Ys.length (11 * fmLen fm)) (bAnd (fmB 2 fm) (bAnd (Ys.all (noA 1)) (F.all (noF 1)))) = true)
    (hg : ∀ (v : Nat → Int) (hG : Holds v (F ++ [.ge (.a 1) 2])), @fitsL (symsOf v _ hG sl0) Try.prog (orElse (tabO (canT0i ++ canT1i)) (@mTab (symsOf v _ hG sl0) ((checkM (pat 2) ++ bitsM false (pat 2))))) 1000 (outs 2) (formL 2 fm Ys) ids = true) : CanQ2_3 val :=
  fun op zs hm hC hB h0 h1 => ⟨fm, Ys, Nat.eq_of_beq_eq_true (bAnd_true hc).1, (bAnd_true (bAnd_true hc).2).1, (bAnd_true (bAnd_true (bAnd_true hc).2).2).1, leafQM (tab := (canT0i ++ canT1i)) (me := ((checkM (pat 2) ++ bitsM false (pat 2)))) h ids mixK (by kernel_rfl) (by intro x hx; simp only [List.mem_cons, List.not_mem_nil, or_false] at hx; rcases hx with rfl | rfl <;> exact wfN 2) (by kernel_rfl) (by kernel_rfl) (by kernel_rfl) (fun c sla _ _ => ⟨(tCons h0.1 (tCons h0.2.1 (tCons h0.2.2.1 (tCons h0.2.2.2 (tCons h1.1 (tCons h1.2.1 (tCons h1.2.2.1 (tCons h1.2.2.2 tNil)))))))), (mCons (me_of (op := op) (zs := zs) (fun w vs hv => pat_of (by omega) (nm_upd hm 1 (by omega) c) hv) rfl hC.1) (mCons (me_of (op := op) (zs := zs) (fun w vs hv => pat_of (by omega) (nm_upd hm 1 (by omega) c) hv) rfl hC.2) (mCons (me_of (op := op) (zs := zs) (fun w vs hv => pat_of (by omega) (nm_upd hm 1 (by omega) c) hv) rfl hB.1) (mCons (me_of (op := op) (zs := zs) (fun w vs hv => pat_of (by omega) (nm_upd hm 1 (by omega) c) hv) rfl hB.2) mNil))))⟩) (bAnd_true (bAnd_true (bAnd_true hc).2).2).2 (fun v hG sla hs => by subst hs; exact hg v hG)⟩

abbrev CanEQ3 (val : Nat → Int) : Prop := ∀ op zs, NmN val op zs 3 → CheckR val op zs → QM Try.prog G1 1 3 (outs 3) (errL 3) val

theorem ce3 {val : Nat → Int} {F : List Fact} (h : Holds val F) (hn : F.all (noF 1) = true)
    (hg : ∀ (v : Nat → Int) (hG : Holds v (F ++ [.ge (.a 1) 3])), @fitsL (symsOf v _ hG sl0) Try.prog (orElse (tabO []) (@mTab (symsOf v _ hG sl0) (checkM (pat 3)))) 1000 (outs 3) (errL 3) [[], []] = true) : CanEQ3 val :=
  fun op zs hm hC => leafQM (tab := []) (me := (checkM (pat 3))) h [[], []] mixK (by kernel_rfl) (by intro x hx; simp only [List.mem_cons, List.not_mem_nil, or_false] at hx; rcases hx with rfl | rfl <;> exact wfN 3) (by kernel_rfl) (by kernel_rfl) (by kernel_rfl) (fun c sla _ _ => ⟨tNil, (mCons (me_of (op := op) (zs := zs) (fun w vs hv => pat_of (by omega) (nm_upd hm 1 (by omega) c) hv) rfl hC.1) (mCons (me_of (op := op) (zs := zs) (fun w vs hv => pat_of (by omega) (nm_upd hm 1 (by omega) c) hv) rfl hC.2) mNil))⟩) hn (fun v hG sla hs => by subst hs; exact hg v hG)

abbrev CanQ3_0 (val : Nat → Int) : Prop := ∀ op zs, NmN val op zs 3 → CheckR val op zs → BitsR val op zs → CanH0 val → CanH1 val → CanH2 val → ∃ (fm : Nat) (Ys : List SX), Ys.length = 11 * fmLen fm ∧ fmB 3 fm = true ∧ Ys.all (noA 1) = true ∧ QM Try.prog G1 1 3 (outs 3) (formL 3 fm Ys) val

theorem co3_0 {val : Nat → Int} {F : List Fact} (h : Holds val F) (fm : Nat) (Ys : List SX) (ids : List (List Nat)) (hc : bAnd (Nat.beq Ys.length (11 * fmLen fm)) (bAnd (fmB 3 fm) (bAnd (Ys.all (noA 1)) (F.all (noF 1)))) = true)
    (hg : ∀ (v : Nat → Int) (hG : Holds v (F ++ [.ge (.a 1) 3])), @fitsL (symsOf v _ hG sl0) Try.prog (orElse (tabO (canT0 ++ canT1 ++ canT2)) (@mTab (symsOf v _ hG sl0) ((checkM (pat 3) ++ bitsM false (pat 3))))) 1000 (outs 3) (formL 3 fm Ys) ids = true) : CanQ3_0 val :=
  fun op zs hm hC hB h0 h1 h2 => ⟨fm, Ys, Nat.eq_of_beq_eq_true (bAnd_true hc).1, (bAnd_true (bAnd_true hc).2).1, (bAnd_true (bAnd_true (bAnd_true hc).2).2).1, leafQM (tab := (canT0 ++ canT1 ++ canT2)) (me := ((checkM (pat 3) ++ bitsM false (pat 3)))) h ids mixK (by kernel_rfl) (by intro x hx; simp only [List.mem_cons, List.not_mem_nil, or_false] at hx; rcases hx with rfl | rfl <;> exact wfN 3) (by kernel_rfl) (by kernel_rfl) (by kernel_rfl) (fun c sla _ _ => ⟨(tCons h0.1 (tCons h0.2 (tCons h1.1 (tCons h1.2 (tCons h2.1 (tCons h2.2 tNil)))))), (mCons (me_of (op := op) (zs := zs) (fun w vs hv => pat_of (by omega) (nm_upd hm 1 (by omega) c) hv) rfl hC.1) (mCons (me_of (op := op) (zs := zs) (fun w vs hv => pat_of (by omega) (nm_upd hm 1 (by omega) c) hv) rfl hC.2) (mCons (me_of (op := op) (zs := zs) (fun w vs hv => pat_of (by omega) (nm_upd hm 1 (by omega) c) hv) rfl hB.1) (mCons (me_of (op := op) (zs := zs) (fun w vs hv => pat_of (by omega) (nm_upd hm 1 (by omega) c) hv) rfl hB.2) mNil))))⟩) (bAnd_true (bAnd_true (bAnd_true hc).2).2).2 (fun v hG sla hs => by subst hs; exact hg v hG)⟩

abbrev CanQ3_1 (val : Nat → Int) : Prop := ∀ op zs, NmN val op zs 3 → CheckR val op zs → BitsR val op zs → CanH0i val → CanH1 val → CanH2 val → ∃ (fm : Nat) (Ys : List SX), Ys.length = 11 * fmLen fm ∧ fmB 3 fm = true ∧ Ys.all (noA 1) = true ∧ QM Try.prog G1 1 3 (outs 3) (formL 3 fm Ys) val

theorem co3_1 {val : Nat → Int} {F : List Fact} (h : Holds val F) (fm : Nat) (Ys : List SX) (ids : List (List Nat)) (hc : bAnd (Nat.beq Ys.length (11 * fmLen fm)) (bAnd (fmB 3 fm) (bAnd (Ys.all (noA 1)) (F.all (noF 1)))) = true)
    (hg : ∀ (v : Nat → Int) (hG : Holds v (F ++ [.ge (.a 1) 3])), @fitsL (symsOf v _ hG sl0) Try.prog (orElse (tabO (canT0i ++ canT1 ++ canT2)) (@mTab (symsOf v _ hG sl0) ((checkM (pat 3) ++ bitsM false (pat 3))))) 1000 (outs 3) (formL 3 fm Ys) ids = true) : CanQ3_1 val :=
  fun op zs hm hC hB h0 h1 h2 => ⟨fm, Ys, Nat.eq_of_beq_eq_true (bAnd_true hc).1, (bAnd_true (bAnd_true hc).2).1, (bAnd_true (bAnd_true (bAnd_true hc).2).2).1, leafQM (tab := (canT0i ++ canT1 ++ canT2)) (me := ((checkM (pat 3) ++ bitsM false (pat 3)))) h ids mixK (by kernel_rfl) (by intro x hx; simp only [List.mem_cons, List.not_mem_nil, or_false] at hx; rcases hx with rfl | rfl <;> exact wfN 3) (by kernel_rfl) (by kernel_rfl) (by kernel_rfl) (fun c sla _ _ => ⟨(tCons h0.1 (tCons h0.2.1 (tCons h0.2.2.1 (tCons h0.2.2.2 (tCons h1.1 (tCons h1.2 (tCons h2.1 (tCons h2.2 tNil)))))))), (mCons (me_of (op := op) (zs := zs) (fun w vs hv => pat_of (by omega) (nm_upd hm 1 (by omega) c) hv) rfl hC.1) (mCons (me_of (op := op) (zs := zs) (fun w vs hv => pat_of (by omega) (nm_upd hm 1 (by omega) c) hv) rfl hC.2) (mCons (me_of (op := op) (zs := zs) (fun w vs hv => pat_of (by omega) (nm_upd hm 1 (by omega) c) hv) rfl hB.1) (mCons (me_of (op := op) (zs := zs) (fun w vs hv => pat_of (by omega) (nm_upd hm 1 (by omega) c) hv) rfl hB.2) mNil))))⟩) (bAnd_true (bAnd_true (bAnd_true hc).2).2).2 (fun v hG sla hs => by subst hs; exact hg v hG)⟩

abbrev CanQ3_2 (val : Nat → Int) : Prop := ∀ op zs, NmN val op zs 3 → CheckR val op zs → BitsR val op zs → CanH0 val → CanH1i val → CanH2 val → ∃ (fm : Nat) (Ys : List SX), Ys.length = 11 * fmLen fm ∧ fmB 3 fm = true ∧ Ys.all (noA 1) = true ∧ QM Try.prog G1 1 3 (outs 3) (formL 3 fm Ys) val

theorem co3_2 {val : Nat → Int} {F : List Fact} (h : Holds val F) (fm : Nat) (Ys : List SX) (ids : List (List Nat)) (hc : bAnd (Nat.beq Ys.length (11 * fmLen fm)) (bAnd (fmB 3 fm) (bAnd (Ys.all (noA 1)) (F.all (noF 1)))) = true)
    (hg : ∀ (v : Nat → Int) (hG : Holds v (F ++ [.ge (.a 1) 3])), @fitsL (symsOf v _ hG sl0) Try.prog (orElse (tabO (canT0 ++ canT1i ++ canT2)) (@mTab (symsOf v _ hG sl0) ((checkM (pat 3) ++ bitsM false (pat 3))))) 1000 (outs 3) (formL 3 fm Ys) ids = true) : CanQ3_2 val :=
  fun op zs hm hC hB h0 h1 h2 => ⟨fm, Ys, Nat.eq_of_beq_eq_true (bAnd_true hc).1, (bAnd_true (bAnd_true hc).2).1, (bAnd_true (bAnd_true (bAnd_true hc).2).2).1, leafQM (tab := (canT0 ++ canT1i ++ canT2)) (me := ((checkM (pat 3) ++ bitsM false (pat 3)))) h ids mixK (by kernel_rfl) (by intro x hx; simp only [List.mem_cons, List.not_mem_nil, or_false] at hx; rcases hx with rfl | rfl <;> exact wfN 3) (by kernel_rfl) (by kernel_rfl) (by kernel_rfl) (fun c sla _ _ => ⟨(tCons h0.1 (tCons h0.2 (tCons h1.1 (tCons h1.2.1 (tCons h1.2.2.1 (tCons h1.2.2.2 (tCons h2.1 (tCons h2.2 tNil)))))))), (mCons (me_of (op := op) (zs := zs) (fun w vs hv => pat_of (by omega) (nm_upd hm 1 (by omega) c) hv) rfl hC.1) (mCons (me_of (op := op) (zs := zs) (fun w vs hv => pat_of (by omega) (nm_upd hm 1 (by omega) c) hv) rfl hC.2) (mCons (me_of (op := op) (zs := zs) (fun w vs hv => pat_of (by omega) (nm_upd hm 1 (by omega) c) hv) rfl hB.1) (mCons (me_of (op := op) (zs := zs) (fun w vs hv => pat_of (by omega) (nm_upd hm 1 (by omega) c) hv) rfl hB.2) mNil))))⟩) (bAnd_true (bAnd_true (bAnd_true hc).2).2).2 (fun v hG sla hs => by subst hs; exact hg v hG)⟩

abbrev CanQ3_3 (val : Nat → Int) : Prop := ∀ op zs, NmN val op zs 3 → CheckR val op zs → BitsR val op zs → CanH0i val → CanH1i val → CanH2 val → ∃ (fm : Nat) (Ys : List SX), Ys.length = 11 * fmLen fm ∧ fmB 3 fm = true ∧ Ys.all (noA 1) = true ∧ QM Try.prog G1 1 3 (outs 3) (formL 3 fm Ys) val

theorem co3_3 {val : Nat → Int} {F : List Fact} (h : Holds val F) (fm : Nat) (Ys : List SX) (ids : List (List Nat)) (hc : bAnd (Nat.beq Ys.length (11 * fmLen fm)) (bAnd (fmB 3 fm) (bAnd (Ys.all (noA 1)) (F.all (noF 1)))) = true)
    (hg : ∀ (v : Nat → Int) (hG : Holds v (F ++ [.ge (.a 1) 3])), @fitsL (symsOf v _ hG sl0) Try.prog (orElse (tabO (canT0i ++ canT1i ++ canT2)) (@mTab (symsOf v _ hG sl0) ((checkM (pat 3) ++ bitsM false (pat 3))))) 1000 (outs 3) (formL 3 fm Ys) ids = true) : CanQ3_3 val :=
  fun op zs hm hC hB h0 h1 h2 => ⟨fm, Ys, Nat.eq_of_beq_eq_true (bAnd_true hc).1, (bAnd_true (bAnd_true hc).2).1, (bAnd_true (bAnd_true (bAnd_true hc).2).2).1, leafQM (tab := (canT0i ++ canT1i ++ canT2)) (me := ((checkM (pat 3) ++ bitsM false (pat 3)))) h ids mixK (by kernel_rfl) (by intro x hx; simp only [List.mem_cons, List.not_mem_nil, or_false] at hx; rcases hx with rfl | rfl <;> exact wfN 3) (by kernel_rfl) (by kernel_rfl) (by kernel_rfl) (fun c sla _ _ => ⟨(tCons h0.1 (tCons h0.2.1 (tCons h0.2.2.1 (tCons h0.2.2.2 (tCons h1.1 (tCons h1.2.1 (tCons h1.2.2.1 (tCons h1.2.2.2 (tCons h2.1 (tCons h2.2 tNil)))))))))), (mCons (me_of (op := op) (zs := zs) (fun w vs hv => pat_of (by omega) (nm_upd hm 1 (by omega) c) hv) rfl hC.1) (mCons (me_of (op := op) (zs := zs) (fun w vs hv => pat_of (by omega) (nm_upd hm 1 (by omega) c) hv) rfl hC.2) (mCons (me_of (op := op) (zs := zs) (fun w vs hv => pat_of (by omega) (nm_upd hm 1 (by omega) c) hv) rfl hB.1) (mCons (me_of (op := op) (zs := zs) (fun w vs hv => pat_of (by omega) (nm_upd hm 1 (by omega) c) hv) rfl hB.2) mNil))))⟩) (bAnd_true (bAnd_true (bAnd_true hc).2).2).2 (fun v hG sla hs => by subst hs; exact hg v hG)⟩

abbrev CanQ3_4 (val : Nat → Int) : Prop := ∀ op zs, NmN val op zs 3 → CheckR val op zs → BitsR val op zs → CanH0 val → CanH1 val → CanH2i val → ∃ (fm : Nat) (Ys : List SX), Ys.length = 11 * fmLen fm ∧ fmB 3 fm = true ∧ Ys.all (noA 1) = true ∧ QM Try.prog G1 1 3 (outs 3) (formL 3 fm Ys) val

theorem co3_4 {val : Nat → Int} {F : List Fact} (h : Holds val F) (fm : Nat) (Ys : List SX) (ids : List (List Nat)) (hc : bAnd (Nat.beq Ys.length (11 * fmLen fm)) (bAnd (fmB 3 fm) (bAnd (Ys.all (noA 1)) (F.all (noF 1)))) = true)
    (hg : ∀ (v : Nat → Int) (hG : Holds v (F ++ [.ge (.a 1) 3])), @fitsL (symsOf v _ hG sl0) Try.prog (orElse (tabO (canT0 ++ canT1 ++ canT2i)) (@mTab (symsOf v _ hG sl0) ((checkM (pat 3) ++ bitsM false (pat 3))))) 1000 (outs 3) (formL 3 fm Ys) ids = true) : CanQ3_4 val :=
  fun op zs hm hC hB h0 h1 h2 => ⟨fm, Ys, Nat.eq_of_beq_eq_true (bAnd_true hc).1, (bAnd_true (bAnd_true hc).2).1, (bAnd_true (bAnd_true (bAnd_true hc).2).2).1, leafQM (tab := (canT0 ++ canT1 ++ canT2i)) (me := ((checkM (pat 3) ++ bitsM false (pat 3)))) h ids mixK (by kernel_rfl) (by intro x hx; simp only [List.mem_cons, List.not_mem_nil, or_false] at hx; rcases hx with rfl | rfl <;> exact wfN 3) (by kernel_rfl) (by kernel_rfl) (by kernel_rfl) (fun c sla _ _ => ⟨(tCons h0.1 (tCons h0.2 (tCons h1.1 (tCons h1.2 (tCons h2.1 (tCons h2.2.1 (tCons h2.2.2.1 (tCons h2.2.2.2 tNil)))))))), (mCons (me_of (op := op) (zs := zs) (fun w vs hv => pat_of (by omega) (nm_upd hm 1 (by omega) c) hv) rfl hC.1) (mCons (me_of (op := op) (zs := zs) (fun w vs hv => pat_of (by omega) (nm_upd hm 1 (by omega) c) hv) rfl hC.2) (mCons (me_of (op := op) (zs := zs) (fun w vs hv => pat_of (by omega) (nm_upd hm 1 (by omega) c) hv) rfl hB.1) (mCons (me_of (op := op) (zs := zs) (fun w vs hv => pat_of (by omega) (nm_upd hm 1 (by omega) c) hv) rfl hB.2) mNil))))⟩) (bAnd_true (bAnd_true (bAnd_true hc).2).2).2 (fun v hG sla hs => by subst hs; exact hg v hG)⟩

abbrev CanQ3_5 (val : Nat → Int) : Prop := ∀ op zs, NmN val op zs 3 → CheckR val op zs → BitsR val op zs → CanH0i val → CanH1 val → CanH2i val → ∃ (fm : Nat) (Ys : List SX), Ys.length = 11 * fmLen fm ∧ fmB 3 fm = true ∧ Ys.all (noA 1) = true ∧ QM Try.prog G1 1 3 (outs 3) (formL 3 fm Ys) val

theorem co3_5 {val : Nat → Int} {F : List Fact} (h : Holds val F) (fm : Nat) (Ys : List SX) (ids : List (List Nat)) (hc : bAnd (Nat.beq Ys.length (11 * fmLen fm)) (bAnd (fmB 3 fm) (bAnd (Ys.all (noA 1)) (F.all (noF 1)))) = true)
    (hg : ∀ (v : Nat → Int) (hG : Holds v (F ++ [.ge (.a 1) 3])), @fitsL (symsOf v _ hG sl0) Try.prog (orElse (tabO (canT0i ++ canT1 ++ canT2i)) (@mTab (symsOf v _ hG sl0) ((checkM (pat 3) ++ bitsM false (pat 3))))) 1000 (outs 3) (formL 3 fm Ys) ids = true) : CanQ3_5 val :=
  fun op zs hm hC hB h0 h1 h2 => ⟨fm, Ys, Nat.eq_of_beq_eq_true (bAnd_true hc).1, (bAnd_true (bAnd_true hc).2).1, (bAnd_true (bAnd_true (bAnd_true hc).2).2).1, leafQM (tab := (canT0i ++ canT1 ++ canT2i)) (me := ((checkM (pat 3) ++ bitsM false (pat 3)))) h ids mixK (by kernel_rfl) (by intro x hx; simp only [List.mem_cons, List.not_mem_nil, or_false] at hx; rcases hx with rfl | rfl <;> exact wfN 3) (by kernel_rfl) (by kernel_rfl) (by kernel_rfl) (fun c sla _ _ => ⟨(tCons h0.1 (tCons h0.2.1 (tCons h0.2.2.1 (tCons h0.2.2.2 (tCons h1.1 (tCons h1.2 (tCons h2.1 (tCons h2.2.1 (tCons h2.2.2.1 (tCons h2.2.2.2 tNil)))))))))), (mCons (me_of (op := op) (zs := zs) (fun w vs hv => pat_of (by omega) (nm_upd hm 1 (by omega) c) hv) rfl hC.1) (mCons (me_of (op := op) (zs := zs) (fun w vs hv => pat_of (by omega) (nm_upd hm 1 (by omega) c) hv) rfl hC.2) (mCons (me_of (op := op) (zs := zs) (fun w vs hv => pat_of (by omega) (nm_upd hm 1 (by omega) c) hv) rfl hB.1) (mCons (me_of (op := op) (zs := zs) (fun w vs hv => pat_of (by omega) (nm_upd hm 1 (by omega) c) hv) rfl hB.2) mNil))))⟩) (bAnd_true (bAnd_true (bAnd_true hc).2).2).2 (fun v hG sla hs => by subst hs; exact hg v hG)⟩

abbrev CanQ3_6 (val : Nat → Int) : Prop := ∀ op zs, NmN val op zs 3 → CheckR val op zs → BitsR val op zs → CanH0 val → CanH1i val → CanH2i val → ∃ (fm : Nat) (Ys : List SX), Ys.length = 11 * fmLen fm ∧ fmB 3 fm = true ∧ Ys.all (noA 1) = true ∧ QM Try.prog G1 1 3 (outs 3) (formL 3 fm Ys) val

theorem co3_6 {val : Nat → Int} {F : List Fact} (h : Holds val F) (fm : Nat) (Ys : List SX) (ids : List (List Nat)) (hc : bAnd (Nat.beq Ys.length (11 * fmLen fm)) (bAnd (fmB 3 fm) (bAnd (Ys.all (noA 1)) (F.all (noF 1)))) = true)
    (hg : ∀ (v : Nat → Int) (hG : Holds v (F ++ [.ge (.a 1) 3])), @fitsL (symsOf v _ hG sl0) Try.prog (orElse (tabO (canT0 ++ canT1i ++ canT2i)) (@mTab (symsOf v _ hG sl0) ((checkM (pat 3) ++ bitsM false (pat 3))))) 1000 (outs 3) (formL 3 fm Ys) ids = true) : CanQ3_6 val :=
  fun op zs hm hC hB h0 h1 h2 => ⟨fm, Ys, Nat.eq_of_beq_eq_true (bAnd_true hc).1, (bAnd_true (bAnd_true hc).2).1, (bAnd_true (bAnd_true (bAnd_true hc).2).2).1, leafQM (tab := (canT0 ++ canT1i ++ canT2i)) (me := ((checkM (pat 3) ++ bitsM false (pat 3)))) h ids mixK (by kernel_rfl) (by intro x hx; simp only [List.mem_cons, List.not_mem_nil, or_false] at hx; rcases hx with rfl | rfl <;> exact wfN 3) (by kernel_rfl) (by kernel_rfl) (by kernel_rfl) (fun c sla _ _ => ⟨(tCons h0.1 (tCons h0.2 (tCons h1.1 (tCons h1.2.1 (tCons h1.2.2.1 (tCons h1.2.2.2 (tCons h2.1 (tCons h2.2.1 (tCons h2.2.2.1 (tCons h2.2.2.2 tNil)))))))))), (mCons (me_of (op := op) (zs := zs) (fun w vs hv => pat_of (by omega) (nm_upd hm 1 (by omega) c) hv) rfl hC.1) (mCons (me_of (op := op) (zs := zs) (fun w vs hv => pat_of (by omega) (nm_upd hm 1 (by omega) c) hv) rfl hC.2) (mCons (me_of (op := op) (zs := zs) (fun w vs hv => pat_of (by omega) (nm_upd hm 1 (by omega) c) hv) rfl hB.1) (mCons (me_of (op := op) (zs := zs) (fun w vs hv => pat_of (by omega) (nm_upd hm 1 (by omega) c) hv) rfl hB.2) mNil))))⟩) (bAnd_true (bAnd_true (bAnd_true hc).2).2).2 (fun v hG sla hs => by subst hs; exact hg v hG)⟩

abbrev CanQ3_7 (val : Nat → Int) : Prop := ∀ op zs, NmN val op zs 3 → CheckR val op zs → BitsR val op zs → CanH0i val → CanH1i val → CanH2i val → ∃ (fm : Nat) (Ys : List SX), Ys.length = 11 * fmLen fm ∧ fmB 3 fm = true ∧ Ys.all (noA 1) = true ∧ QM Try.prog G1 1 3 (outs 3) (formL 3 fm Ys) val

theorem co3_7 {val : Nat → Int} {F : List Fact} (h : Holds val F) (fm : Nat) (Ys : List SX) (ids : List (List Nat)) (hc : bAnd (Nat.beq Ys.length (11 * fmLen fm)) (bAnd (fmB 3 fm) (bAnd (Ys.all (noA 1)) (F.all (noF 1)))) = true)
    (hg : ∀ (v : Nat → Int) (hG : Holds v (F ++ [.ge (.a 1) 3])), @fitsL (symsOf v _ hG sl0) Try.prog (orElse (tabO (canT0i ++ canT1i ++ canT2i)) (@mTab (symsOf v _ hG sl0) ((checkM (pat 3) ++ bitsM false (pat 3))))) 1000 (outs 3) (formL 3 fm Ys) ids = true) : CanQ3_7 val :=
  fun op zs hm hC hB h0 h1 h2 => ⟨fm, Ys, Nat.eq_of_beq_eq_true (bAnd_true hc).1, (bAnd_true (bAnd_true hc).2).1, (bAnd_true (bAnd_true (bAnd_true hc).2).2).1, leafQM (tab := (canT0i ++ canT1i ++ canT2i)) (me := ((checkM (pat 3) ++ bitsM false (pat 3)))) h ids mixK (by kernel_rfl) (by intro x hx; simp only [List.mem_cons, List.not_mem_nil, or_false] at hx; rcases hx with rfl | rfl <;> exact wfN 3) (by kernel_rfl) (by kernel_rfl) (by kernel_rfl) (fun c sla _ _ => ⟨(tCons h0.1 (tCons h0.2.1 (tCons h0.2.2.1 (tCons h0.2.2.2 (tCons h1.1 (tCons h1.2.1 (tCons h1.2.2.1 (tCons h1.2.2.2 (tCons h2.1 (tCons h2.2.1 (tCons h2.2.2.1 (tCons h2.2.2.2 tNil)))))))))))), (mCons (me_of (op := op) (zs := zs) (fun w vs hv => pat_of (by omega) (nm_upd hm 1 (by omega) c) hv) rfl hC.1) (mCons (me_of (op := op) (zs := zs) (fun w vs hv => pat_of (by omega) (nm_upd hm 1 (by omega) c) hv) rfl hC.2) (mCons (me_of (op := op) (zs := zs) (fun w vs hv => pat_of (by omega) (nm_upd hm 1 (by omega) c) hv) rfl hB.1) (mCons (me_of (op := op) (zs := zs) (fun w vs hv => pat_of (by omega) (nm_upd hm 1 (by omega) c) hv) rfl hB.2) mNil))))⟩) (bAnd_true (bAnd_true (bAnd_true hc).2).2).2 (fun v hG sla hs => by subst hs; exact hg v hG)⟩

abbrev CanEQ4 (val : Nat → Int) : Prop := ∀ op zs, NmN val op zs 4 → CheckR val op zs → QM Try.prog G1 1 4 (outs 4) (errL 4) val

theorem ce4 {val : Nat → Int} {F : List Fact} (h : Holds val F) (hn : F.all (noF 1) = true)
    (hg : ∀ (v : Nat → Int) (hG : Holds v (F ++ [.ge (.a 1) 4])), @fitsL (symsOf v _ hG sl0) Try.prog (orElse (tabO []) (@mTab (symsOf v _ hG sl0) (checkM (pat 4)))) 1000 (outs 4) (errL 4) [[], []] = true) : CanEQ4 val :=
  fun op zs hm hC => leafQM (tab := []) (me := (checkM (pat 4))) h [[], []] mixK (by kernel_rfl) (by intro x hx; simp only [List.mem_cons, List.not_mem_nil, or_false] at hx; rcases hx with rfl | rfl <;> exact wfN 4) (by kernel_rfl) (by kernel_rfl) (by kernel_rfl) (fun c sla _ _ => ⟨tNil, (mCons (me_of (op := op) (zs := zs) (fun w vs hv => pat_of (by omega) (nm_upd hm 1 (by omega) c) hv) rfl hC.1) (mCons (me_of (op := op) (zs := zs) (fun w vs hv => pat_of (by omega) (nm_upd hm 1 (by omega) c) hv) rfl hC.2) mNil))⟩) hn (fun v hG sla hs => by subst hs; exact hg v hG)

abbrev CanQ4_0 (val : Nat → Int) : Prop := ∀ op zs, NmN val op zs 4 → CheckR val op zs → BitsR val op zs → CanH0 val → CanH1 val → CanH2 val → CanH3 val → ∃ (fm : Nat) (Ys : List SX), Ys.length = 11 * fmLen fm ∧ fmB 4 fm = true ∧ Ys.all (noA 1) = true ∧ QM Try.prog G1 1 4 (outs 4) (formL 4 fm Ys) val

theorem co4_0 {val : Nat → Int} {F : List Fact} (h : Holds val F) (fm : Nat) (Ys : List SX) (ids : List (List Nat)) (hc : bAnd (Nat.beq Ys.length (11 * fmLen fm)) (bAnd (fmB 4 fm) (bAnd (Ys.all (noA 1)) (F.all (noF 1)))) = true)
    (hg : ∀ (v : Nat → Int) (hG : Holds v (F ++ [.ge (.a 1) 4])), @fitsL (symsOf v _ hG sl0) Try.prog (orElse (tabO (canT0 ++ canT1 ++ canT2 ++ canT3)) (@mTab (symsOf v _ hG sl0) ((checkM (pat 4) ++ bitsM false (pat 4))))) 1000 (outs 4) (formL 4 fm Ys) ids = true) : CanQ4_0 val :=
  fun op zs hm hC hB h0 h1 h2 h3 => ⟨fm, Ys, Nat.eq_of_beq_eq_true (bAnd_true hc).1, (bAnd_true (bAnd_true hc).2).1, (bAnd_true (bAnd_true (bAnd_true hc).2).2).1, leafQM (tab := (canT0 ++ canT1 ++ canT2 ++ canT3)) (me := ((checkM (pat 4) ++ bitsM false (pat 4)))) h ids mixK (by kernel_rfl) (by intro x hx; simp only [List.mem_cons, List.not_mem_nil, or_false] at hx; rcases hx with rfl | rfl <;> exact wfN 4) (by kernel_rfl) (by kernel_rfl) (by kernel_rfl) (fun c sla _ _ => ⟨(tCons h0.1 (tCons h0.2 (tCons h1.1 (tCons h1.2 (tCons h2.1 (tCons h2.2 (tCons h3.1 (tCons h3.2 tNil)))))))), (mCons (me_of (op := op) (zs := zs) (fun w vs hv => pat_of (by omega) (nm_upd hm 1 (by omega) c) hv) rfl hC.1) (mCons (me_of (op := op) (zs := zs) (fun w vs hv => pat_of (by omega) (nm_upd hm 1 (by omega) c) hv) rfl hC.2) (mCons (me_of (op := op) (zs := zs) (fun w vs hv => pat_of (by omega) (nm_upd hm 1 (by omega) c) hv) rfl hB.1) (mCons (me_of (op := op) (zs := zs) (fun w vs hv => pat_of (by omega) (nm_upd hm 1 (by omega) c) hv) rfl hB.2) mNil))))⟩) (bAnd_true (bAnd_true (bAnd_true hc).2).2).2 (fun v hG sla hs => by subst hs; exact hg v hG)⟩

abbrev CanQ4_1 (val : Nat → Int) : Prop := ∀ op zs, NmN val op zs 4 → CheckR val op zs → BitsR val op zs → CanH0i val → CanH1 val → CanH2 val → CanH3 val → ∃ (fm : Nat) (Ys : List SX), Ys.length = 11 * fmLen fm ∧ fmB 4 fm = true ∧ Ys.all (noA 1) = true ∧ QM Try.prog G1 1 4 (outs 4) (formL 4 fm Ys) val

theorem co4_1 {val : Nat → Int} {F : List Fact} (h : Holds val F) (fm : Nat) (Ys : List SX) (ids : List (List Nat)) (hc : bAnd (Nat.beq Ys.length (11 * fmLen fm)) (bAnd (fmB 4 fm) (bAnd (Ys.all (noA 1)) (F.all (noF 1)))) = true)
    (hg : ∀ (v : Nat → Int) (hG : Holds v (F ++ [.ge (.a 1) 4])), @fitsL (symsOf v _ hG sl0) Try.prog (orElse (tabO (canT0i ++ canT1 ++ canT2 ++ canT3)) (@mTab (symsOf v _ hG sl0) ((checkM (pat 4) ++ bitsM false (pat 4))))) 1000 (outs 4) (formL 4 fm Ys) ids = true) : CanQ4_1 val :=
  fun op zs hm hC hB h0 h1 h2 h3 => ⟨fm, Ys, Nat.eq_of_beq_eq_true (bAnd_true hc).1, (bAnd_true (bAnd_true hc).2).1, (bAnd_true (bAnd_true (bAnd_true hc).2).2).1, leafQM (tab := (canT0i ++ canT1 ++ canT2 ++ canT3)) (me := ((checkM (pat 4) ++ bitsM false (pat 4)))) h ids mixK (by kernel_rfl) (by intro x hx; simp only [List.mem_cons, List.not_mem_nil, or_false] at hx; rcases hx with rfl | rfl <;> exact wfN 4) (by kernel_rfl) (by kernel_rfl) (by kernel_rfl) (fun c sla _ _ => ⟨(tCons h0.1 (tCons h0.2.1 (tCons h0.2.2.1 (tCons h0.2.2.2 (tCons h1.1 (tCons h1.2 (tCons h2.1 (tCons h2.2 (tCons h3.1 (tCons h3.2 tNil)))))))))), (mCons (me_of (op := op) (zs := zs) (fun w vs hv => pat_of (by omega) (nm_upd hm 1 (by omega) c) hv) rfl hC.1) (mCons (me_of (op := op) (zs := zs) (fun w vs hv => pat_of (by omega) (nm_upd hm 1 (by omega) c) hv) rfl hC.2) (mCons (me_of (op := op) (zs := zs) (fun w vs hv => pat_of (by omega) (nm_upd hm 1 (by omega) c) hv) rfl hB.1) (mCons (me_of (op := op) (zs := zs) (fun w vs hv => pat_of (by omega) (nm_upd hm 1 (by omega) c) hv) rfl hB.2) mNil))))⟩) (bAnd_true (bAnd_true (bAnd_true hc).2).2).2 (fun v hG sla hs => by subst hs; exact hg v hG)⟩

abbrev CanQ4_2 (val : Nat → Int) : Prop := ∀ op zs, NmN val op zs 4 → CheckR val op zs → BitsR val op zs → CanH0 val → CanH1i val → CanH2 val → CanH3 val → ∃ (fm : Nat) (Ys : List SX), Ys.length = 11 * fmLen fm ∧ fmB 4 fm = true ∧ Ys.all (noA 1) = true ∧ QM Try.prog G1 1 4 (outs 4) (formL 4 fm Ys) val

theorem co4_2 {val : Nat → Int} {F : List Fact} (h : Holds val F) (fm : Nat) (Ys : List SX) (ids : List (List Nat)) (hc : bAnd (Nat.beq Ys.length (11 * fmLen fm)) (bAnd (fmB 4 fm) (bAnd (Ys.all (noA 1)) (F.all (noF 1)))) = true)
    (hg : ∀ (v : Nat → Int) (hG : Holds v (F ++ [.ge (.a 1) 4])), @fitsL (symsOf v _ hG sl0) Try.prog (orElse (tabO (canT0 ++ canT1i ++ canT2 ++ canT3)) (@mTab (symsOf v _ hG sl0) ((checkM (pat 4) ++ bitsM false (pat 4))))) 1000 (outs 4) (formL 4 fm Ys) ids = true) : CanQ4_2 val :=
  fun op zs hm hC hB h0 h1 h2 h3 => ⟨fm, Ys, Nat.eq_of_beq_eq_true (bAnd_true hc).1, (bAnd_true (bAnd_true hc).2).1, (bAnd_true (bAnd_true (bAnd_true hc).2).2).1, leafQM (tab := (canT0 ++ canT1i ++ canT2 ++ canT3)) (me := ((checkM (pat 4) ++ bitsM false (pat 4)))) h ids mixK (by kernel_rfl) (by intro x hx; simp only [List.mem_cons, List.not_mem_nil, or_false] at hx; rcases hx with rfl | rfl <;> exact wfN 4) (by kernel_rfl) (by kernel_rfl) (by kernel_rfl) (fun c sla _ _ => ⟨(tCons h0.1 (tCons h0.2 (tCons h1.1 (tCons h1.2.1 (tCons h1.2.2.1 (tCons h1.2.2.2 (tCons h2.1 (tCons h2.2 (tCons h3.1 (tCons h3.2 tNil)))))))))), (mCons (me_of (op := op) (zs := zs) (fun w vs hv => pat_of (by omega) (nm_upd hm 1 (by omega) c) hv) rfl hC.1) (mCons (me_of (op := op) (zs := zs) (fun w vs hv => pat_of (by omega) (nm_upd hm 1 (by omega) c) hv) rfl hC.2) (mCons (me_of (op := op) (zs := zs) (fun w vs hv => pat_of (by omega) (nm_upd hm 1 (by omega) c) hv) rfl hB.1) (mCons (me_of (op := op) (zs := zs) (fun w vs hv => pat_of (by omega) (nm_upd hm 1 (by omega) c) hv) rfl hB.2) mNil))))⟩) (bAnd_true (bAnd_true (bAnd_true hc).2).2).2 (fun v hG sla hs => by subst hs; exact hg v hG)⟩

abbrev CanQ4_3 (val : Nat → Int) : Prop := ∀ op zs, NmN val op zs 4 → CheckR val op zs → BitsR val op zs → CanH0i val → CanH1i val → CanH2 val → CanH3 val → ∃ (fm : Nat) (Ys : List SX), Ys.length = 11 * fmLen fm ∧ fmB 4 fm = true ∧ Ys.all (noA 1) = true ∧ QM Try.prog G1 1 4 (outs 4) (formL 4 fm Ys) val

theorem co4_3 {val : Nat → Int} {F : List Fact} (h : Holds val F) (fm : Nat) (Ys : List SX) (ids : List (List Nat)) (hc : bAnd (Nat.beq Ys.length (11 * fmLen fm)) (bAnd (fmB 4 fm) (bAnd (Ys.all (noA 1)) (F.all (noF 1)))) = true)
    (hg : ∀ (v : Nat → Int) (hG : Holds v (F ++ [.ge (.a 1) 4])), @fitsL (symsOf v _ hG sl0) Try.prog (orElse (tabO (canT0i ++ canT1i ++ canT2 ++ canT3)) (@mTab (symsOf v _ hG sl0) ((checkM (pat 4) ++ bitsM false (pat 4))))) 1000 (outs 4) (formL 4 fm Ys) ids = true) : CanQ4_3 val :=
  fun op zs hm hC hB h0 h1 h2 h3 => ⟨fm, Ys, Nat.eq_of_beq_eq_true (bAnd_true hc).1, (bAnd_true (bAnd_true hc).2).1, (bAnd_true (bAnd_true (bAnd_true hc).2).2).1, leafQM (tab := (canT0i ++ canT1i ++ canT2 ++ canT3)) (me := ((checkM (pat 4) ++ bitsM false (pat 4)))) h ids mixK (by kernel_rfl) (by intro x hx; simp only [List.mem_cons, List.not_mem_nil, or_false] at hx; rcases hx with rfl | rfl <;> exact wfN 4) (by kernel_rfl) (by kernel_rfl) (by kernel_rfl) (fun c sla _ _ => ⟨(tCons h0.1 (tCons h0.2.1 (tCons h0.2.2.1 (tCons h0.2.2.2 (tCons h1.1 (tCons h1.2.1 (tCons h1.2.2.1 (tCons h1.2.2.2 (tCons h2.1 (tCons h2.2 (tCons h3.1 (tCons h3.2 tNil)))))))))))), (mCons (me_of (op := op) (zs := zs) (fun w vs hv => pat_of (by omega) (nm_upd hm 1 (by omega) c) hv) rfl hC.1) (mCons (me_of (op := op) (zs := zs) (fun w vs hv => pat_of (by omega) (nm_upd hm 1 (by omega) c) hv) rfl hC.2) (mCons (me_of (op := op) (zs := zs) (fun w vs hv => pat_of (by omega) (nm_upd hm 1 (by omega) c) hv) rfl hB.1) (mCons (me_of (op := op) (zs := zs) (fun w vs hv => pat_of (by omega) (nm_upd hm 1 (by omega) c) hv) rfl hB.2) mNil))))⟩) (bAnd_true (bAnd_true (bAnd_true hc).2).2).2 (fun v hG sla hs => by subst hs; exact hg v hG)⟩

abbrev CanQ4_4 (val : Nat → Int) : Prop := ∀ op zs, NmN val op zs 4 → CheckR val op zs → BitsR val op zs → CanH0 val → CanH1 val → CanH2i val → CanH3 val → ∃ (fm : Nat) (Ys : List SX), Ys.length = 11 * fmLen fm ∧ fmB 4 fm = true ∧ Ys.all (noA 1) = true ∧ QM Try.prog G1 1 4 (outs 4) (formL 4 fm Ys) val

theorem co4_4 {val : Nat → Int} {F : List Fact} (h : Holds val F) (fm : Nat) (Ys : List SX) (ids : List (List Nat)) (hc : bAnd (Nat.beq Ys.length (11 * fmLen fm)) (bAnd (fmB 4 fm) (bAnd (Ys.all (noA 1)) (F.all (noF 1)))) = true)
    (hg : ∀ (v : Nat → Int) (hG : Holds v (F ++ [.ge (.a 1) 4])), @fitsL (symsOf v _ hG sl0) Try.prog (orElse (tabO (canT0 ++ canT1 ++ canT2i ++ canT3)) (@mTab (symsOf v _ hG sl0) ((checkM (pat 4) ++ bitsM false (pat 4))))) 1000 (outs 4) (formL 4 fm Ys) ids = true) : CanQ4_4 val :=
  fun op zs hm hC hB h0 h1 h2 h3 => ⟨fm, Ys, Nat.eq_of_beq_eq_true (bAnd_true hc).1, (bAnd_true (bAnd_true hc).2).1, (bAnd_true (bAnd_true (bAnd_true hc).2).2).1, leafQM (tab := (canT0 ++ canT1 ++ canT2i ++ canT3)) (me := ((checkM (pat 4) ++ bitsM false (pat 4)))) h ids mixK (by kernel_rfl) (by intro x hx; simp only [List.mem_cons, List.not_mem_nil, or_false] at hx; rcases hx with rfl | rfl <;> exact wfN 4) (by kernel_rfl) (by kernel_rfl) (by kernel_rfl) (fun c sla _ _ => ⟨(tCons h0.1 (tCons h0.2 (tCons h1.1 (tCons h1.2 (tCons h2.1 (tCons h2.2.1 (tCons h2.2.2.1 (tCons h2.2.2.2 (tCons h3.1 (tCons h3.2 tNil)))))))))), (mCons (me_of (op := op) (zs := zs) (fun w vs hv => pat_of (by omega) (nm_upd hm 1 (by omega) c) hv) rfl hC.1) (mCons (me_of (op := op) (zs := zs) (fun w vs hv => pat_of (by omega) (nm_upd hm 1 (by omega) c) hv) rfl hC.2) (mCons (me_of (op := op) (zs := zs) (fun w vs hv => pat_of (by omega) (nm_upd hm 1 (by omega) c) hv) rfl hB.1) (mCons (me_of (op := op) (zs := zs) (fun w vs hv => pat_of (by omega) (nm_upd hm 1 (by omega) c) hv) rfl hB.2) mNil))))⟩) (bAnd_true (bAnd_true (bAnd_true hc).2).2).2 (fun v hG sla hs => by subst hs; exact hg v hG)⟩

abbrev CanQ4_5 (val : Nat → Int) : Prop := ∀ op zs, NmN val op zs 4 → CheckR val op zs → BitsR val op zs → CanH0i val → CanH1 val → CanH2i val → CanH3 val → ∃ (fm : Nat) (Ys : List SX), Ys.length = 11 * fmLen fm ∧ fmB 4 fm = true ∧ Ys.all (noA 1) = true ∧ QM Try.prog G1 1 4 (outs 4) (formL 4 fm Ys) val

theorem co4_5 {val : Nat → Int} {F : List Fact} (h : Holds val F) (fm : Nat) (Ys : List SX) (ids : List (List Nat)) (hc : bAnd (Nat.beq Ys.length (11 * fmLen fm)) (bAnd (fmB 4 fm) (bAnd (Ys.all (noA 1)) (F.all (noF 1)))) = true)
    (hg : ∀ (v : Nat → Int) (hG : Holds v (F ++ [.ge (.a 1) 4])), @fitsL (symsOf v _ hG sl0) Try.prog (orElse (tabO (canT0i ++ canT1 ++ canT2i ++ canT3)) (@mTab (symsOf v _ hG sl0) ((checkM (pat 4) ++ bitsM false (pat 4))))) 1000 (outs 4) (formL 4 fm Ys) ids = true) : CanQ4_5 val :=
  fun op zs hm hC hB h0 h1 h2 h3 => ⟨fm, Ys, Nat.eq_of_beq_eq_true (bAnd_true hc).1, (bAnd_true (bAnd_true hc).2).1, (bAnd_true (bAnd_true (bAnd_true hc).2).2).1, leafQM (tab := (canT0i ++ canT1 ++ canT2i ++ canT3)) (me := ((checkM (pat 4) ++ bitsM false (pat 4)))) h ids mixK (by kernel_rfl) (by intro x hx; simp only [List.mem_cons, List.not_mem_nil, or_false] at hx; rcases hx with rfl | rfl <;> exact wfN 4) (by kernel_rfl) (by kernel_rfl) (by kernel_rfl) (fun c sla _ _ => ⟨(tCons h0.1 (tCons h0.2.1 (tCons h0.2.2.1 (tCons h0.2.2.2 (tCons h1.1 (tCons h1.2 (tCons h2.1 (tCons h2.2.1 (tCons h2.2.2.1 (tCons h2.2.2.2 (tCons h3.1 (tCons h3.2 tNil)))))))))))), (mCons (me_of (op := op) (zs := zs) (fun w vs hv => pat_of (by omega) (nm_upd hm 1 (by omega) c) hv) rfl hC.1) (mCons (me_of (op := op) (zs := zs) (fun w vs hv => pat_of (by omega) (nm_upd hm 1 (by omega) c) hv) rfl hC.2) (mCons (me_of (op := op) (zs := zs) (fun w vs hv => pat_of (by omega) (nm_upd hm 1 (by omega) c) hv) rfl hB.1) (mCons (me_of (op := op) (zs := zs) (fun w vs hv => pat_of (by omega) (nm_upd hm 1 (by omega) c) hv) rfl hB.2) mNil))))⟩) (bAnd_true (bAnd_true (bAnd_true hc).2).2).2 (fun v hG sla hs => by subst hs; exact hg v hG)⟩

abbrev CanQ4_6 (val : Nat → Int) : Prop := ∀ op zs, NmN val op zs 4 → CheckR val op zs → BitsR val op zs → CanH0 val → CanH1i val → CanH2i val → CanH3 val → ∃ (fm : Nat) (Ys : List SX), Ys.length = 11 * fmLen fm ∧ fmB 4 fm = true ∧ Ys.all (noA 1) = true ∧ QM Try.prog G1 1 4 (outs 4) (formL 4 fm Ys) val

theorem co4_6 {val : Nat → Int} {F : List Fact} (h : Holds val F) (fm : Nat) (Ys : List SX) (ids : List (List Nat)) (hc : bAnd (Nat.beq Ys.length (11 * fmLen fm)) (bAnd (fmB 4 fm) (bAnd (Ys.all (noA 1)) (F.all (noF 1)))) = true)
    (hg : ∀ (v : Nat → Int) (hG : Holds v (F ++ [.ge (.a 1) 4])), @fitsL (symsOf v _ hG sl0) Try.prog (orElse (tabO (canT0 ++ canT1i ++ canT2i ++ canT3)) (@mTab (symsOf v _ hG sl0) ((checkM (pat 4) ++ bitsM false (pat 4))))) 1000 (outs 4) (formL 4 fm Ys) ids = true) : CanQ4_6 val :=
  fun op zs hm hC hB h0 h1 h2 h3 => ⟨fm, Ys, Nat.eq_of_beq_eq_true (bAnd_true hc).1, (bAnd_true (bAnd_true hc).2).1, (bAnd_true (bAnd_true (bAnd_true hc).2).2).1, leafQM (tab := (canT0 ++ canT1i ++ canT2i ++ canT3)) (me := ((checkM (pat 4) ++ bitsM false (pat 4)))) h ids mixK (by kernel_rfl) (by intro x hx; simp only [List.mem_cons, List.not_mem_nil, or_false] at hx; rcases hx with rfl | rfl <;> exact wfN 4) (by kernel_rfl) (by kernel_rfl) (by kernel_rfl) (fun c sla _ _ => ⟨(tCons h0.1 (tCons h0.2 (tCons h1.1 (tCons h1.2.1 (tCons h1.2.2.1 (tCons h1.2.2.2 (tCons h2.1 (tCons h2.2.1 (tCons h2.2.2.1 (tCons h2.2.2.2 (tCons h3.1 (tCons h3.2 tNil)))))))))))), (mCons (me_of (op := op) (zs := zs) (fun w vs hv => pat_of (by omega) (nm_upd hm 1 (by omega) c) hv) rfl hC.1) (mCons (me_of (op := op) (zs := zs) (fun w vs hv => pat_of (by omega) (nm_upd hm 1 (by omega) c) hv) rfl hC.2) (mCons (me_of (op := op) (zs := zs) (fun w vs hv => pat_of (by omega) (nm_upd hm 1 (by omega) c) hv) rfl hB.1) (mCons (me_of (op := op) (zs := zs) (fun w vs hv => pat_of (by omega) (nm_upd hm 1 (by omega) c) hv) rfl hB.2) mNil))))⟩) (bAnd_true (bAnd_true (bAnd_true hc).2).2).2 (fun v hG sla hs => by subst hs; exact hg v hG)⟩

abbrev CanQ4_7 (val : Nat → Int) : Prop := ∀ op zs, NmN val op zs 4 → CheckR val op zs → BitsR val op zs → CanH0i val → CanH1i val → CanH2i val → CanH3 val → ∃ (fm : Nat) (Ys : List SX), Ys.length = 11 * fmLen fm ∧ fmB 4 fm = true ∧ Ys.all (noA 1) = true ∧ QM Try.prog G1 1 4 (outs 4) (formL 4 fm Ys) val

theorem co4_7 {val : Nat → Int} {F : List Fact} (h : Holds val F) (fm : Nat) (Ys : List SX) (ids : List (List Nat)) (hc : bAnd (Nat.beq Ys.length (11 * fmLen fm)) (bAnd (fmB 4 fm) (bAnd (Ys.all (noA 1)) (F.all (noF 1)))) = true)
    (hg : ∀ (v : Nat → Int) (hG : Holds v (F ++ [.ge (.a 1) 4])), @fitsL (symsOf v _ hG sl0) Try.prog (orElse (tabO (canT0i ++ canT1i ++ canT2i ++ canT3)) (@mTab (symsOf v _ hG sl0) ((checkM (pat 4) ++ bitsM false (pat 4))))) 1000 (outs 4) (formL 4 fm Ys) ids = true) : CanQ4_7 val :=
  fun op zs hm hC hB h0 h1 h2 h3 => ⟨fm, Ys, Nat.eq_of_beq_eq_true (bAnd_true hc).1, (bAnd_true (bAnd_true hc).2).1, (bAnd_true (bAnd_true (bAnd_true hc).2).2).1, leafQM (tab := (canT0i ++ canT1i ++ canT2i ++ canT3)) (me := ((checkM (pat 4) ++ bitsM false (pat 4)))) h ids mixK (by kernel_rfl) (by intro x hx; simp only [List.mem_cons, List.not_mem_nil, or_false] at hx; rcases hx with rfl | rfl <;> exact wfN 4) (by kernel_rfl) (by kernel_rfl) (by kernel_rfl) (fun c sla _ _ => ⟨(tCons h0.1 (tCons h0.2.1 (tCons h0.2.2.1 (tCons h0.2.2.2 (tCons h1.1 (tCons h1.2.1 (tCons h1.2.2.1 (tCons h1.2.2.2 (tCons h2.1 (tCons h2.2.1 (tCons h2.2.2.1 (tCons h2.2.2.2 (tCons h3.1 (tCons h3.2 tNil)))))))))))))), (mCons (me_of (op := op) (zs := zs) (fun w vs hv => pat_of (by omega) (nm_upd hm 1 (by omega) c) hv) rfl hC.1) (mCons (me_of (op := op) (zs := zs) (fun w vs hv => pat_of (by omega) (nm_upd hm 1 (by omega) c) hv) rfl hC.2) (mCons (me_of (op := op) (zs := zs) (fun w vs hv => pat_of (by omega) (nm_upd hm 1 (by omega) c) hv) rfl hB.1) (mCons (me_of (op := op) (zs := zs) (fun w vs hv => pat_of (by omega) (nm_upd hm 1 (by omega) c) hv) rfl hB.2) mNil))))⟩) (bAnd_true (bAnd_true (bAnd_true hc).2).2).2 (fun v hG sla hs => by subst hs; exact hg v hG)⟩

abbrev CanQ4_8 (val : Nat → Int) : Prop := ∀ op zs, NmN val op zs 4 → CheckR val op zs → BitsR val op zs → CanH0 val → CanH1 val → CanH2 val → CanH3i val → ∃ (fm : Nat) (Ys : List SX), Ys.length = 11 * fmLen fm ∧ fmB 4 fm = true ∧ Ys.all (noA 1) = true ∧ QM Try.prog G1 1 4 (outs 4) (formL 4 fm Ys) val

theorem co4_8 {val : Nat → Int} {F : List Fact} (h : Holds val F) (fm : Nat) (Ys : List SX) (ids : List (List Nat)) (hc : bAnd (Nat.beq Ys.length (11 * fmLen fm)) (bAnd (fmB 4 fm) (bAnd (Ys.all (noA 1)) (F.all (noF 1)))) = true)
    (hg : ∀ (v : Nat → Int) (hG : Holds v (F ++ [.ge (.a 1) 4])), @fitsL (symsOf v _ hG sl0) Try.prog (orElse (tabO (canT0 ++ canT1 ++ canT2 ++ canT3i)) (@mTab (symsOf v _ hG sl0) ((checkM (pat 4) ++ bitsM false (pat 4))))) 1000 (outs 4) (formL 4 fm Ys) ids = true) : CanQ4_8 val :=
  fun op zs hm hC hB h0 h1 h2 h3 => ⟨fm, Ys, Nat.eq_of_beq_eq_true (bAnd_true hc).1, (bAnd_true (bAnd_true hc).2).1, (bAnd_true (bAnd_true (bAnd_true hc).2).2).1, leafQM (tab := (canT0 ++ canT1 ++ canT2 ++ canT3i)) (me := ((checkM (pat 4) ++ bitsM false (pat 4)))) h ids mixK (by kernel_rfl) (by intro x hx; simp only [List.mem_cons, List.not_mem_nil, or_false] at hx; rcases hx with rfl | rfl <;> exact wfN 4) (by kernel_rfl) (by kernel_rfl) (by kernel_rfl) (fun c sla _ _ => ⟨(tCons h0.1 (tCons h0.2 (tCons h1.1 (tCons h1.2 (tCons h2.1 (tCons h2.2 (tCons h3.1 (tCons h3.2.1 (tCons h3.2.2.1 (tCons h3.2.2.2 tNil)))))))))), (mCons (me_of (op := op) (zs := zs) (fun w vs hv => pat_of (by omega) (nm_upd hm 1 (by omega) c) hv) rfl hC.1) (mCons (me_of (op := op) (zs := zs) (fun w vs hv => pat_of (by omega) (nm_upd hm 1 (by omega) c) hv) rfl hC.2) (mCons (me_of (op := op) (zs := zs) (fun w vs hv => pat_of (by omega) (nm_upd hm 1 (by omega) c) hv) rfl hB.1) (mCons (me_of (op := op) (zs := zs) (fun w vs hv => pat_of (by omega) (nm_upd hm 1 (by omega) c) hv) rfl hB.2) mNil))))⟩) (bAnd_true (bAnd_true (bAnd_true hc).2).2).2 (fun v hG sla hs => by subst hs; exact hg v hG)⟩

abbrev CanQ4_9 (val : Nat → Int) : Prop := ∀ op zs, NmN val op zs 4 → CheckR val op zs → BitsR val op zs → CanH0i val → CanH1 val → CanH2 val → CanH3i val → ∃ (fm : Nat) (Ys : List SX), Ys.length = 11 * fmLen fm ∧ fmB 4 fm = true ∧ Ys.all (noA 1) = true ∧ QM Try.prog G1 1 4 (outs 4) (formL 4 fm Ys) val

theorem co4_9 {val : Nat → Int} {F : List Fact} (h : Holds val F) (fm : Nat) (Ys : List SX) (ids : List (List Nat)) (hc : bAnd (Nat.beq Ys.length (11 * fmLen fm)) (bAnd (fmB 4 fm) (bAnd (Ys.all (noA 1)) (F.all (noF 1)))) = true)
    (hg : ∀ (v : Nat → Int) (hG : Holds v (F ++ [.ge (.a 1) 4])), @fitsL (symsOf v _ hG sl0) Try.prog (orElse (tabO (canT0i ++ canT1 ++ canT2 ++ canT3i)) (@mTab (symsOf v _ hG sl0) ((checkM (pat 4) ++ bitsM false (pat 4))))) 1000 (outs 4) (formL 4 fm Ys) ids = true) : CanQ4_9 val :=
  fun op zs hm hC hB h0 h1 h2 h3 => ⟨fm, Ys, Nat.eq_of_beq_eq_true (bAnd_true hc).1, (bAnd_true (bAnd_true hc).2).1, (bAnd_true (bAnd_true (bAnd_true hc).2).2).1, leafQM (tab := (canT0i ++ canT1 ++ canT2 ++ canT3i)) (me := ((checkM (pat 4) ++ bitsM false (pat 4)))) h ids mixK (by kernel_rfl) (by intro x hx; simp only [List.mem_cons, List.not_mem_nil, or_false] at hx; rcases hx with rfl | rfl <;> exact wfN 4) (by kernel_rfl) (by kernel_rfl) (by kernel_rfl) (fun c sla _ _ => ⟨(tCons h0.1 (tCons h0.2.1 (tCons h0.2.2.1 (tCons h0.2.2.2 (tCons h1.1 (tCons h1.2 (tCons h2.1 (tCons h2.2 (tCons h3.1 (tCons h3.2.1 (tCons h3.2.2.1 (tCons h3.2.2.2 tNil)))))))))))), (mCons (me_of (op := op) (zs := zs) (fun w vs hv => pat_of (by omega) (nm_upd hm 1 (by omega) c) hv) rfl hC.1) (mCons (me_of (op := op) (zs := zs) (fun w vs hv => pat_of (by omega) (nm_upd hm 1 (by omega) c) hv) rfl hC.2) (mCons (me_of (op := op) (zs := zs) (fun w vs hv => pat_of (by omega) (nm_upd hm 1 (by omega) c) hv) rfl hB.1) (mCons (me_of (op := op) (zs := zs) (fun w vs hv => pat_of (by omega) (nm_upd hm 1 (by omega) c) hv) rfl hB.2) mNil))))⟩) (bAnd_true (bAnd_true (bAnd_true hc).2).2).2 (fun v hG sla hs => by subst hs; exact hg v hG)⟩

abbrev CanQ4_10 (val : Nat → Int) : Prop := ∀ op zs, NmN val op zs 4 → CheckR val op zs → BitsR val op zs → CanH0 val → CanH1i val → CanH2 val → CanH3i val → ∃ (fm : Nat) (Ys : List SX), Ys.length = 11 * fmLen fm ∧ fmB 4 fm = true ∧ Ys.all (noA 1) = true ∧ QM Try.prog G1 1 4 (outs 4) (formL 4 fm Ys) val

theorem co4_10 {val : Nat → Int} {F : List Fact} (h : Holds val F) (fm : Nat) (Ys : List SX) (ids : List (List Nat)) (hc : bAnd (Nat.beq Ys.length (11 * fmLen fm)) (bAnd (fmB 4 fm) (bAnd (Ys.all (noA 1)) (F.all (noF 1)))) = true)
    (hg : ∀ (v : Nat → Int) (hG : Holds v (F ++ [.ge (.a 1) 4])), @fitsL (symsOf v _ hG sl0) Try.prog (orElse (tabO (canT0 ++ canT1i ++ canT2 ++ canT3i)) (@mTab (symsOf v _ hG sl0) ((checkM (pat 4) ++ bitsM false (pat 4))))) 1000 (outs 4) (formL 4 fm Ys) ids = true) : CanQ4_10 val :=
  fun op zs hm hC hB h0 h1 h2 h3 => ⟨fm, Ys, Nat.eq_of_beq_eq_true (bAnd_true hc).1, (bAnd_true (bAnd_true hc).2).1, (bAnd_true (bAnd_true (bAnd_true hc).2).2).1, leafQM (tab := (canT0 ++ canT1i ++ canT2 ++ canT3i)) (me := ((checkM (pat 4) ++ bitsM false (pat 4)))) h ids mixK (by kernel_rfl) (by intro x hx; simp only [List.mem_cons, List.not_mem_nil, or_false] at hx; rcases hx with rfl | rfl <;> exact wfN 4) (by kernel_rfl) (by kernel_rfl) (by kernel_rfl) (fun c sla _ _ => ⟨(tCons h0.1 (tCons h0.2 (tCons h1.1 (tCons h1.2.1 (tCons h1.2.2.1 (tCons h1.2.2.2 (tCons h2.1 (tCons h2.2 (tCons h3.1 (tCons h3.2.1 (tCons h3.2.2.1 (tCons h3.2.2.2 tNil)))))))))))), (mCons (me_of (op := op) (zs := zs) (fun w vs hv => pat_of (by omega) (nm_upd hm 1 (by omega) c) hv) rfl hC.1) (mCons (me_of (op := op) (zs := zs) (fun w vs hv => pat_of (by omega) (nm_upd hm 1 (by omega) c) hv) rfl hC.2) (mCons (me_of (op := op) (zs := zs) (fun w vs hv => pat_of (by omega) (nm_upd hm 1 (by omega) c) hv) rfl hB.1) (mCons (me_of (op := op) (zs := zs) (fun w vs hv => pat_of (by omega) (nm_upd hm 1 (by omega) c) hv) rfl hB.2) mNil))))⟩) (bAnd_true (bAnd_true (bAnd_true hc).2).2).2 (fun v hG sla hs => by subst hs; exact hg v hG)⟩

abbrev CanQ4_11 (val : Nat → Int) : Prop := ∀ op zs, NmN val op zs 4 → CheckR val op zs → BitsR val op zs → CanH0i val → CanH1i val → CanH2 val → CanH3i val → ∃ (fm : Nat) (Ys : List SX), Ys.length = 11 * fmLen fm ∧ fmB 4 fm = true ∧ Ys.all (noA 1) = true ∧ QM Try.prog G1 1 4 (outs 4) (formL 4 fm Ys) val

theorem co4_11 {val : Nat → Int} {F : List Fact} (h : Holds val F) (fm : Nat) (Ys : List SX) (ids : List (List Nat)) (hc : bAnd (Nat.beq Ys.length (11 * fmLen fm)) (bAnd (fmB 4 fm) (bAnd (Ys.all (noA 1)) (F.all (noF 1)))) = true)
    (hg : ∀ (v : Nat → Int) (hG : Holds v (F ++ [.ge (.a 1) 4])), @fitsL (symsOf v _ hG sl0) Try.prog (orElse (tabO (canT0i ++ canT1i ++ canT2 ++ canT3i)) (@mTab (symsOf v _ hG sl0) ((checkM (pat 4) ++ bitsM false (pat 4))))) 1000 (outs 4) (formL 4 fm Ys) ids = true) : CanQ4_11 val :=
  fun op zs hm hC hB h0 h1 h2 h3 => ⟨fm, Ys, Nat.eq_of_beq_eq_true (bAnd_true hc).1, (bAnd_true (bAnd_true hc).2).1, (bAnd_true (bAnd_true (bAnd_true hc).2).2).1, leafQM (tab := (canT0i ++ canT1i ++ canT2 ++ canT3i)) (me := ((checkM (pat 4) ++ bitsM false (pat 4)))) h ids mixK (by kernel_rfl) (by intro x hx; simp only [List.mem_cons, List.not_mem_nil, or_false] at hx; rcases hx with rfl | rfl <;> exact wfN 4) (by kernel_rfl) (by kernel_rfl) (by kernel_rfl) (fun c sla _ _ => ⟨(tCons h0.1 (tCons h0.2.1 (tCons h0.2.2.1 (tCons h0.2.2.2 (tCons h1.1 (tCons h1.2.1 (tCons h1.2.2.1 (tCons h1.2.2.2 (tCons h2.1 (tCons h2.2 (tCons h3.1 (tCons h3.2.1 (tCons h3.2.2.1 (tCons h3.2.2.2 tNil)))))))))))))), (mCons (me_of (op := op) (zs := zs) (fun w vs hv => pat_of (by omega) (nm_upd hm 1 (by omega) c) hv) rfl hC.1) (mCons (me_of (op := op) (zs := zs) (fun w vs hv => pat_of (by omega) (nm_upd hm 1 (by omega) c) hv) rfl hC.2) (mCons (me_of (op := op) (zs := zs) (fun w vs hv => pat_of (by omega) (nm_upd hm 1 (by omega) c) hv) rfl hB.1) (mCons (me_of (op := op) (zs := zs) (fun w vs hv => pat_of (by omega) (nm_upd hm 1 (by omega) c) hv) rfl hB.2) mNil))))⟩) (bAnd_true (bAnd_true (bAnd_true hc).2).2).2 (fun v hG sla hs => by subst hs; exact hg v hG)⟩

abbrev CanQ4_12 (val : Nat → Int) : Prop := ∀ op zs, NmN val op zs 4 → CheckR val op zs → BitsR val op zs → CanH0 val → CanH1 val → CanH2i val → CanH3i val → ∃ (fm : Nat) (Ys : List SX), Ys.length = 11 * fmLen fm ∧ fmB 4 fm = true ∧ Ys.all (noA 1) = true ∧ QM Try.prog G1 1 4 (outs 4) (formL 4 fm Ys) val

theorem co4_12 {val : Nat → Int} {F : List Fact} (h : Holds val F) (fm : Nat) (Ys : List SX) (ids : List (List Nat)) (hc : bAnd (Nat.beq Ys.length (11 * fmLen fm)) (bAnd (fmB 4 fm) (bAnd (Ys.all (noA 1)) (F.all (noF 1)))) = true)
    (hg : ∀ (v : Nat → Int) (hG : Holds v (F ++ [.ge (.a 1) 4])), @fitsL (symsOf v _ hG sl0) Try.prog (orElse (tabO (canT0 ++ canT1 ++ canT2i ++ canT3i)) (@mTab (symsOf v _ hG sl0) ((checkM (pat 4) ++ bitsM false (pat 4))))) 1000 (outs 4) (formL 4 fm Ys) ids = true) : CanQ4_12 val :=
  fun op zs hm hC hB h0 h1 h2 h3 => ⟨fm, Ys, Nat.eq_of_beq_eq_true (bAnd_true hc).1, (bAnd_true (bAnd_true hc).2).1, (bAnd_true (bAnd_true (bAnd_true hc).2).2).1, leafQM (tab := (canT0 ++ canT1 ++ canT2i ++ canT3i)) (me := ((checkM (pat 4) ++ bitsM false (pat 4)))) h ids mixK (by kernel_rfl) (by intro x hx; simp only [List.mem_cons, List.not_mem_nil, or_false] at hx; rcases hx with rfl | rfl <;> exact wfN 4) (by kernel_rfl) (by kernel_rfl) (by kernel_rfl) (fun c sla _ _ => ⟨(tCons h0.1 (tCons h0.2 (tCons h1.1 (tCons h1.2 (tCons h2.1 (tCons h2.2.1 (tCons h2.2.2.1 (tCons h2.2.2.2 (tCons h3.1 (tCons h3.2.1 (tCons h3.2.2.1 (tCons h3.2.2.2 tNil)))))))))))), (mCons (me_of (op := op) (zs := zs) (fun w vs hv => pat_of (by omega) (nm_upd hm 1 (by omega) c) hv) rfl hC.1) (mCons (me_of (op := op) (zs := zs) (fun w vs hv => pat_of (by omega) (nm_upd hm 1 (by omega) c) hv) rfl hC.2) (mCons (me_of (op := op) (zs := zs) (fun w vs hv => pat_of (by omega) (nm_upd hm 1 (by omega) c) hv) rfl hB.1) (mCons (me_of (op := op) (zs := zs) (fun w vs hv => pat_of (by omega) (nm_upd hm 1 (by omega) c) hv) rfl hB.2) mNil))))⟩) (bAnd_true (bAnd_true (bAnd_true hc).2).2).2 (fun v hG sla hs => by subst hs; exact hg v hG)⟩

abbrev CanQ4_13 (val : Nat → Int) : Prop := ∀ op zs, NmN val op zs 4 → CheckR val op zs → BitsR val op zs → CanH0i val → CanH1 val → CanH2i val → CanH3i val → ∃ (fm : Nat) (Ys : List SX), Ys.length = 11 * fmLen fm ∧ fmB 4 fm = true ∧ Ys.all (noA 1) = true ∧ QM Try.prog G1 1 4 (outs 4) (formL 4 fm Ys) val

theorem co4_13 {val : Nat → Int} {F : List Fact} (h : Holds val F) (fm : Nat) (Ys : List SX) (ids : List (List Nat)) (hc : bAnd (Nat.beq Ys.length (11 * fmLen fm)) (bAnd (fmB 4 fm) (bAnd (Ys.all (noA 1)) (F.all (noF 1)))) = true)
    (hg : ∀ (v : Nat → Int) (hG : Holds v (F ++ [.ge (.a 1) 4])), @fitsL (symsOf v _ hG sl0) Try.prog (orElse (tabO (canT0i ++ canT1 ++ canT2i ++ canT3i)) (@mTab (symsOf v _ hG sl0) ((checkM (pat 4) ++ bitsM false (pat 4))))) 1000 (outs 4) (formL 4 fm Ys) ids = true) : CanQ4_13 val :=
  fun op zs hm hC hB h0 h1 h2 h3 => ⟨fm, Ys, Nat.eq_of_beq_eq_true (bAnd_true hc).1, (bAnd_true (bAnd_true hc).2).1, (bAnd_true (bAnd_true (bAnd_true hc).2).2).1, leafQM (tab := (canT0i ++ canT1 ++ canT2i ++ canT3i)) (me := ((checkM (pat 4) ++ bitsM false (pat 4)))) h ids mixK (by kernel_rfl) (by intro x hx; simp only [List.mem_cons, List.not_mem_nil, or_false] at hx; rcases hx with rfl | rfl <;> exact wfN 4) (by kernel_rfl) (by kernel_rfl) (by kernel_rfl) (fun c sla _ _ => ⟨(tCons h0.1 (tCons h0.2.1 (tCons h0.2.2.1 (tCons h0.2.2.2 (tCons h1.1 (tCons h1.2 (tCons h2.1 (tCons h2.2.1 (tCons h2.2.2.1 (tCons h2.2.2.2 (tCons h3.1 (tCons h3.2.1 (tCons h3.2.2.1 (tCons h3.2.2.2 tNil)))))))))))))), (mCons (me_of (op := op) (zs := zs) (fun w vs hv => pat_of (by omega) (nm_upd hm 1 (by omega) c) hv) rfl hC.1) (mCons (me_of (op := op) (zs := zs) (fun w vs hv => pat_of (by omega) (nm_upd hm 1 (by omega) c) hv) rfl hC.2) (mCons (me_of (op := op) (zs := zs) (fun w vs hv => pat_of (by omega) (nm_upd hm 1 (by omega) c) hv) rfl hB.1) (mCons (me_of (op := op) (zs := zs) (fun w vs hv => pat_of (by omega) (nm_upd hm 1 (by omega) c) hv) rfl hB.2) mNil))))⟩) (bAnd_true (bAnd_true (bAnd_true hc).2).2).2 (fun v hG sla hs => by subst hs; exact hg v hG)⟩

abbrev CanQ4_14 (val : Nat → Int) : Prop := ∀ op zs, NmN val op zs 4 → CheckR val op zs → BitsR val op zs → CanH0 val → CanH1i val → CanH2i val → CanH3i val → ∃ (fm : Nat) (Ys : List SX), Ys.length = 11 * fmLen fm ∧ fmB 4 fm = true ∧ Ys.all (noA 1) = true ∧ QM Try.prog G1 1 4 (outs 4) (formL 4 fm Ys) val

theorem co4_14 {val : Nat → Int} {F : List Fact} (h : Holds val F) (fm : Nat) (Ys : List SX) (ids : List (List Nat)) (hc : bAnd (Nat.beq Ys.length (11 * fmLen fm)) (bAnd (fmB 4 fm) (bAnd (Ys.all (noA 1)) (F.all (noF 1)))) = true)
    (hg : ∀ (v : Nat → Int) (hG : Holds v (F ++ [.ge (.a 1) 4])), @fitsL (symsOf v _ hG sl0) Try.prog (orElse (tabO (canT0 ++ canT1i ++ canT2i ++ canT3i)) (@mTab (symsOf v _ hG sl0) ((checkM (pat 4) ++ bitsM false (pat 4))))) 1000 (outs 4) (formL 4 fm Ys) ids = true) : CanQ4_14 val :=
  fun op zs hm hC hB h0 h1 h2 h3 => ⟨fm, Ys, Nat.eq_of_beq_eq_true (bAnd_true hc).1, (bAnd_true (bAnd_true hc).2).1, (bAnd_true (bAnd_true (bAnd_true hc).2).2).1, leafQM (tab := (canT0 ++ canT1i ++ canT2i ++ canT3i)) (me := ((checkM (pat 4) ++ bitsM false (pat 4)))) h ids mixK (by kernel_rfl) (by intro x hx; simp only [List.mem_cons, List.not_mem_nil, or_false] at hx; rcases hx with rfl | rfl <;> exact wfN 4) (by kernel_rfl) (by kernel_rfl) (by kernel_rfl) (fun c sla _ _ => ⟨(tCons h0.1 (tCons h0.2 (tCons h1.1 (tCons h1.2.1 (tCons h1.2.2.1 (tCons h1.2.2.2 (tCons h2.1 (tCons h2.2.1 (tCons h2.2.2.1 (tCons h2.2.2.2 (tCons h3.1 (tCons h3.2.1 (tCons h3.2.2.1 (tCons h3.2.2.2 tNil)))))))))))))), (mCons (me_of (op := op) (zs := zs) (fun w vs hv => pat_of (by omega) (nm_upd hm 1 (by omega) c) hv) rfl hC.1) (mCons (me_of (op := op) (zs := zs) (fun w vs hv => pat_of (by omega) (nm_upd hm 1 (by omega) c) hv) rfl hC.2) (mCons (me_of (op := op) (zs := zs) (fun w vs hv => pat_of (by omega) (nm_upd hm 1 (by omega) c) hv) rfl hB.1) (mCons (me_of (op := op) (zs := zs) (fun w vs hv => pat_of (by omega) (nm_upd hm 1 (by omega) c) hv) rfl hB.2) mNil))))⟩) (bAnd_true (bAnd_true (bAnd_true hc).2).2).2 (fun v hG sla hs => by subst hs; exact hg v hG)⟩

abbrev CanQ4_15 (val : Nat → Int) : Prop := ∀ op zs, NmN val op zs 4 → CheckR val op zs → BitsR val op zs → CanH0i val → CanH1i val → CanH2i val → CanH3i val → ∃ (fm : Nat) (Ys : List SX), Ys.length = 11 * fmLen fm ∧ fmB 4 fm = true ∧ Ys.all (noA 1) = true ∧ QM Try.prog G1 1 4 (outs 4) (formL 4 fm Ys) val

theorem co4_15 {val : Nat → Int} {F : List Fact} (h : Holds val F) (fm : Nat) (Ys : List SX) (ids : List (List Nat)) (hc : bAnd (Nat.beq Ys.length (11 * fmLen fm)) (bAnd (fmB 4 fm) (bAnd (Ys.all (noA 1)) (F.all (noF 1)))) = true)
    (hg : ∀ (v : Nat → Int) (hG : Holds v (F ++ [.ge (.a 1) 4])), @fitsL (symsOf v _ hG sl0) Try.prog (orElse (tabO (canT0i ++ canT1i ++ canT2i ++ canT3i)) (@mTab (symsOf v _ hG sl0) ((checkM (pat 4) ++ bitsM false (pat 4))))) 1000 (outs 4) (formL 4 fm Ys) ids = true) : CanQ4_15 val :=
  fun op zs hm hC hB h0 h1 h2 h3 => ⟨fm, Ys, Nat.eq_of_beq_eq_true (bAnd_true hc).1, (bAnd_true (bAnd_true hc).2).1, (bAnd_true (bAnd_true (bAnd_true hc).2).2).1, leafQM (tab := (canT0i ++ canT1i ++ canT2i ++ canT3i)) (me := ((checkM (pat 4) ++ bitsM false (pat 4)))) h ids mixK (by kernel_rfl) (by intro x hx; simp only [List.mem_cons, List.not_mem_nil, or_false] at hx; rcases hx with rfl | rfl <;> exact wfN 4) (by kernel_rfl) (by kernel_rfl) (by kernel_rfl) (fun c sla _ _ => ⟨(tCons h0.1 (tCons h0.2.1 (tCons h0.2.2.1 (tCons h0.2.2.2 (tCons h1.1 (tCons h1.2.1 (tCons h1.2.2.1 (tCons h1.2.2.2 (tCons h2.1 (tCons h2.2.1 (tCons h2.2.2.1 (tCons h2.2.2.2 (tCons h3.1 (tCons h3.2.1 (tCons h3.2.2.1 (tCons h3.2.2.2 tNil)))))))))))))))), (mCons (me_of (op := op) (zs := zs) (fun w vs hv => pat_of (by omega) (nm_upd hm 1 (by omega) c) hv) rfl hC.1) (mCons (me_of (op := op) (zs := zs) (fun w vs hv => pat_of (by omega) (nm_upd hm 1 (by omega) c) hv) rfl hC.2) (mCons (me_of (op := op) (zs := zs) (fun w vs hv => pat_of (by omega) (nm_upd hm 1 (by omega) c) hv) rfl hB.1) (mCons (me_of (op := op) (zs := zs) (fun w vs hv => pat_of (by omega) (nm_upd hm 1 (by omega) c) hv) rfl hB.2) mNil))))⟩) (bAnd_true (bAnd_true (bAnd_true hc).2).2).2 (fun v hG sla hs => by subst hs; exact hg v hG)⟩

abbrev CanEQ5 (val : Nat → Int) : Prop := ∀ op zs, NmN val op zs 5 → CheckR val op zs → QM Try.prog G1 1 5 (outs 5) (errL 5) val

theorem ce5 {val : Nat → Int} {F : List Fact} (h : Holds val F) (hn : F.all (noF 1) = true)
    (hg : ∀ (v : Nat → Int) (hG : Holds v (F ++ [.ge (.a 1) 5])), @fitsL (symsOf v _ hG sl0) Try.prog (orElse (tabO []) (@mTab (symsOf v _ hG sl0) (checkM (pat 5)))) 1000 (outs 5) (errL 5) [[], []] = true) : CanEQ5 val :=
  fun op zs hm hC => leafQM (tab := []) (me := (checkM (pat 5))) h [[], []] mixK (by kernel_rfl) (by intro x hx; simp only [List.mem_cons, List.not_mem_nil, or_false] at hx; rcases hx with rfl | rfl <;> exact wfN 5) (by kernel_rfl) (by kernel_rfl) (by kernel_rfl) (fun c sla _ _ => ⟨tNil, (mCons (me_of (op := op) (zs := zs) (fun w vs hv => pat_of (by omega) (nm_upd hm 1 (by omega) c) hv) rfl hC.1) (mCons (me_of (op := op) (zs := zs) (fun w vs hv => pat_of (by omega) (nm_upd hm 1 (by omega) c) hv) rfl hC.2) mNil))⟩) hn (fun v hG sla hs => by subst hs; exact hg v hG)

abbrev CanEQ6 (val : Nat → Int) : Prop := ∀ op zs, NmN val op zs 6 → CheckR val op zs → QM Try.prog G1 1 6 (outs 6) (errL 6) val

theorem ce6 {val : Nat → Int} {F : List Fact} (h : Holds val F) (hn : F.all (noF 1) = true)
    (hg : ∀ (v : Nat → Int) (hG : Holds v (F ++ [.ge (.a 1) 6])), @fitsL (symsOf v _ hG sl0) Try.prog (orElse (tabO []) (@mTab (symsOf v _ hG sl0) (checkM (pat 6)))) 1000 (outs 6) (errL 6) [[], []] = true) : CanEQ6 val :=
  fun op zs hm hC => leafQM (tab := []) (me := (checkM (pat 6))) h [[], []] mixK (by kernel_rfl) (by intro x hx; simp only [List.mem_cons, List.not_mem_nil, or_false] at hx; rcases hx with rfl | rfl <;> exact wfN 6) (by kernel_rfl) (by kernel_rfl) (by kernel_rfl) (fun c sla _ _ => ⟨tNil, (mCons (me_of (op := op) (zs := zs) (fun w vs hv => pat_of (by omega) (nm_upd hm 1 (by omega) c) hv) rfl hC.1) (mCons (me_of (op := op) (zs := zs) (fun w vs hv => pat_of (by omega) (nm_upd hm 1 (by omega) c) hv) rfl hC.2) mNil))⟩) hn (fun v hG sla hs => by subst hs; exact hg v hG)

abbrev CanEQ7 (val : Nat → Int) : Prop := ∀ op zs, NmN val op zs 7 → CheckR val op zs → QM Try.prog G1 1 7 (outs 7) (errL 7) val

theorem ce7 {val : Nat → Int} {F : List Fact} (h : Holds val F) (hn : F.all (noF 1) = true)
    (hg : ∀ (v : Nat → Int) (hG : Holds v (F ++ [.ge (.a 1) 7])), @fitsL (symsOf v _ hG sl0) Try.prog (orElse (tabO []) (@mTab (symsOf v _ hG sl0) (checkM (pat 7)))) 1000 (outs 7) (errL 7) [[], []] = true) : CanEQ7 val :=
  fun op zs hm hC => leafQM (tab := []) (me := (checkM (pat 7))) h [[], []] mixK (by kernel_rfl) (by intro x hx; simp only [List.mem_cons, List.not_mem_nil, or_false] at hx; rcases hx with rfl | rfl <;> exact wfN 7) (by kernel_rfl) (by kernel_rfl) (by kernel_rfl) (fun c sla _ _ => ⟨tNil, (mCons (me_of (op := op) (zs := zs) (fun w vs hv => pat_of (by omega) (nm_upd hm 1 (by omega) c) hv) rfl hC.1) (mCons (me_of (op := op) (zs := zs) (fun w vs hv => pat_of (by omega) (nm_upd hm 1 (by omega) c) hv) rfl hC.2) mNil))⟩) hn (fun v hG sla hs => by subst hs; exact hg v hG)

abbrev CanEQ8 (val : Nat → Int) : Prop := ∀ op zs, NmN val op zs 8 → CheckR val op zs → QM Try.prog G1 1 8 (outs 8) (errL 8) val

theorem ce8 {val : Nat → Int} {F : List Fact} (h : Holds val F) (hn : F.all (noF 1) = true)
    (hg : ∀ (v : Nat → Int) (hG : Holds v (F ++ [.ge (.a 1) 8])), @fitsL (symsOf v _ hG sl0) Try.prog (orElse (tabO []) (@mTab (symsOf v _ hG sl0) (checkM (pat 8)))) 1000 (outs 8) (errL 8) [[], []] = true) : CanEQ8 val :=
  fun op zs hm hC => leafQM (tab := []) (me := (checkM (pat 8))) h [[], []] mixK (by kernel_rfl) (by intro x hx; simp only [List.mem_cons, List.not_mem_nil, or_false] at hx; rcases hx with rfl | rfl <;> exact wfN 8) (by kernel_rfl) (by kernel_rfl) (by kernel_rfl) (fun c sla _ _ => ⟨tNil, (mCons (me_of (op := op) (zs := zs) (fun w vs hv => pat_of (by omega) (nm_upd hm 1 (by omega) c) hv) rfl hC.1) (mCons (me_of (op := op) (zs := zs) (fun w vs hv => pat_of (by omega) (nm_upd hm 1 (by omega) c) hv) rfl hC.2) mNil))⟩) hn (fun v hG sla hs => by subst hs; exact hg v hG)

abbrev CanEQ9 (val : Nat → Int) : Prop := ∀ op zs, NmN val op zs 9 → CheckR val op zs → QM Try.prog G1 1 9 (outs 9) (errL 9) val

theorem ce9 {val : Nat → Int} {F : List Fact} (h : Holds val F) (hn : F.all (noF 1) = true)
    (hg : ∀ (v : Nat → Int) (hG : Holds v (F ++ [.ge (.a 1) 9])), @fitsL (symsOf v _ hG sl0) Try.prog (orElse (tabO []) (@mTab (symsOf v _ hG sl0) (checkM (pat 9)))) 1000 (outs 9) (errL 9) [[], []] = true) : CanEQ9 val :=
  fun op zs hm hC => leafQM (tab := []) (me := (checkM (pat 9))) h [[], []] mixK (by kernel_rfl) (by intro x hx; simp only [List.mem_cons, List.not_mem_nil, or_false] at hx; rcases hx with rfl | rfl <;> exact wfN 9) (by kernel_rfl) (by kernel_rfl) (by kernel_rfl) (fun c sla _ _ => ⟨tNil, (mCons (me_of (op := op) (zs := zs) (fun w vs hv => pat_of (by omega) (nm_upd hm 1 (by omega) c) hv) rfl hC.1) (mCons (me_of (op := op) (zs := zs) (fun w vs hv => pat_of (by omega) (nm_upd hm 1 (by omega) c) hv) rfl hC.2) mNil))⟩) hn (fun v hG sla hs => by subst hs; exact hg v hG)


end Go.Proofs.Ytndiilfjeconbaa.Tab
