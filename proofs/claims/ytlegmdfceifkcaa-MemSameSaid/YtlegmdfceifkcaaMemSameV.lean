/-
  'MemSame' says true of any two places and any numbers.
-/
import Derived.Test.YtlegmdfceifkcaaSameQ
namespace Go.Proofs.Ytlegmdfceifkcaa.memSame
open Go.Sim Go.Proofs.Ytlegmdfceifkcaa.Tab

theorem row10 {Y : List Int} (h : Y.length = 10) : ∃ y0 y1 y2 y3 y4 y5 y6 y7 y8 y9, Y = [y0, y1, y2, y3, y4, y5, y6, y7, y8, y9] := by
  match Y, h with
  | [y0, y1, y2, y3, y4, y5, y6, y7, y8, y9], _ => exact ⟨_, _, _, _, _, _, _, _, _, _, rfl⟩

/-- What bears which name. -/
def sval (a : List Int) (nx : Int) (zs : List Int) (cap len : Int) (b Ya Yb : List Int) : Nat → Int := fun k =>
  if k < 7 then a.getD k 0 else if k = 7 then nx else if k < 28 then zs.getD (k - 8) 0 else if k = 30 then cap else if k = 31 then len else if k < 40 then b.getD (k - 32) 0 else if k < 50 then Ya.getD (k - 40) 0 else Yb.getD (k - 50) 0

theorem sval_cell (a : List Int) (nx : Int) (zs : List Int) (cap len : Int) (b Ya Yb : List Int) (i : Nat) (hi : i < 20) : sval a nx zs cap len b Ya Yb (8 + i) = zs.getD i 0 := by
  unfold sval
  rw [if_neg (by omega), if_neg (by omega), if_pos (by omega), show 8 + i - 8 = i by omega]

theorem outS (a : List Int) (nx : Int) {zs : List Int} (cap len : Int) (bb Ya Yb : List Int) {b off : Nat} {w : World} (h16 : zs.length = 16) (hb : b < w.heap.size) (hc : ∀ (i : Nat) (n : Int), zs[i]? = some n → w.cell? ⟨b, off + i, none⟩ = some (.int .i64 n)) :
    @OutOK (nameS (sval a nx zs cap len bb Ya Yb) sla0) ⟨fun _ => b, fun _ => off⟩ w outs16 := by
  intro k o hk
  refine ⟨hb, fun i v hv => ?_⟩
  cases k with
  | zero =>
    simp only [List.getElem?_cons_zero, Option.some.injEq] at hk
    subst hk
    obtain ⟨rfl, hi⟩ := cellsFrom_get _ _ _ _ hv
    have hz : zs[i]? = some zs[i] := List.getElem?_eq_getElem (by omega)
    have := hc i _ hz
    rw [this]
    simp only [conc, SX.eval]
    show some (Value.int .i64 zs[i]) = some (.int .i64 (sval a nx zs cap len bb Ya Yb (8 + i)))
    rw [sval_cell _ _ _ _ _ _ _ _ _ (by omega), List.getD_eq_getElem?_getD, hz]
    rfl
  | succ k => simp at hk

/-- With other names for what is not asked. -/
theorem outS_iff {a a' : List Int} {nx nx' : Int} {zs : List Int} {cap cap' len len' : Int} {bb bb' Ya Ya' Yb Yb' : List Int} {E : Env} {w : World} (h : @OutOK (nameS (sval a nx zs cap len bb Ya Yb) sla0) E w outs16) :
    @OutOK (nameS (sval a' nx' zs cap' len' bb' Ya' Yb') sla0) E w outs16 := by
  intro k o hk
  obtain ⟨h1, h2⟩ := h k o hk
  refine ⟨h1, fun i v hv => ?_⟩
  rw [h2 i v hv]
  cases k with
  | zero =>
    simp only [List.getElem?_cons_zero, Option.some.injEq] at hk
    subst hk
    obtain ⟨rfl, hi⟩ := cellsFrom_get _ _ _ _ hv
    simp only [conc, SX.eval]
    show some (Value.int .i64 (sval a nx zs cap len bb Ya Yb (8 + i))) = some (.int .i64 (sval a' nx' zs cap' len' bb' Ya' Yb' (8 + i)))
    rw [sval_cell _ _ _ _ _ _ _ _ _ (by omega), sval_cell _ _ _ _ _ _ _ _ _ (by omega)]
  | succ k => simp at hk

theorem addrF_ab (a b : List Int) (nx : Int) (zs : List Int) (cap len : Int) (Y : List Int) : addrF (sval a nx zs cap len [] [] []) Y = addrF (sval b nx zs cap len [] [] []) Y := by
  have e : ∀ k, 7 ≤ k → sval a nx zs cap len [] [] [] k = sval b nx zs cap len [] [] [] k := by
    intro k hk
    simp only [sval, show ¬ k < 7 by omega, if_false]
  unfold addrF
  rw [e 7 (by omega), e (8 + (Y.getD 1 0).toNat) (by omega), e (8 + (Y.getD 3 0).toNat) (by omega)]

/-- The same canons? -/
def phi (u v p q : Nat) : SB :=
  .and (.and (.eq (.a u) (.a v)) (.eq (.a (u + 1)) (.a (v + 1)))) (.and (.and (.eq (.a (u + 2)) (.a (v + 2))) (.eq (.a (u + 3)) (.a (v + 3)))) (.and (.eq (.a (u + 4)) (.a (v + 4))) (.and (.eq (.a (p + 5)) (.a (q + 5))) (.eq (.a (p + 6)) (.a (q + 6))))))

theorem phi_swap (val : Nat → Int) (u v p q : Nat) : (phi v u q p).eval val = (phi u v p q).eval val := by
  simp only [phi, SB.eval, SX.eval, Bool.beq_comm]

theorem phi_true {val : Nat → Int} {u v p q : Nat} (h : (phi u v p q).eval val = true) : val u = val v ∧ val (u + 1) = val (v + 1) ∧ val (u + 2) = val (v + 2) ∧ val (u + 3) = val (v + 3) ∧ val (u + 4) = val (v + 4) ∧ val (p + 5) = val (q + 5) ∧ val (p + 6) = val (q + 6) := by
  simp only [phi, SB.eval, SX.eval, Bool.and_eq_true, beq_iff_eq] at h
  exact ⟨h.1.1, h.1.2, h.2.1.1, h.2.1.2, h.2.2.1, h.2.2.2.1, h.2.2.2.2⟩

theorem holds2 {val : Nat → Int} {f g : Fact} (h1 : f.holds val) (h2 : g.holds val) : Holds val [f, g] := holds_cons h1 (holds_cons h2 holds_nil)

theorem holds3 {val : Nat → Int} {f g k : Fact} (h1 : f.holds val) (h2 : g.holds val) (h3 : k.holds val) : Holds val [f, g, k] := holds_cons h1 (holds2 h2 h3)

theorem beq_of {x y : Int} (h : x = y) : (x == y) = true := beq_iff_eq.2 h

/-- Not sixteen numbers. -/
theorem long (a0 a1 a2 a3 a4 a5 a6 b0 b1 b2 b3 b4 b5 b6 : Int) (oa : Option Addr) (len cap : Nat) (hne : len ≠ 16) (nx : Int) (w : World) :
    Calls Try.prog 7 #[.agg ([a0, a1, a2, a3, a4, a5, a6].map fun n => Value.int .i64 n).toArray, .agg ([b0, b1, b2, b3, b4, b5, b6].map fun n => Value.int .i64 n).toArray, .slice oa len cap, .int .i64 nx] w fun e w' => e = .returned (.bool true) ∧ RowKit.Below w.heap.size w w' := by
  obtain ⟨Ya, la, ja, pa⟩ := memP (fun k => [a0, a1, a2, a3, a4, a5, a6].getD k 0)
  obtain ⟨Yb, lb, jb, pb⟩ := memP (fun k => [b0, b1, b2, b3, b4, b5, b6].getD k 0)
  obtain ⟨y0, y1, y2, y3, y4, y5, y6, y7, rfl⟩ := row8 la
  obtain ⟨z0, z1, z2, z3, z4, z5, z6, z7, rfl⟩ := row8 lb
  have hlen : ∀ Ya Yb, (Fact.ne (.a 31) 16).holds (sval [a0, a1, a2, a3, a4, a5, a6] nx [] 0 len [b0, b1, b2, b3, b4, b5, b6] Ya Yb) ∧ (Fact.ge (.a 31) 0).holds (sval [a0, a1, a2, a3, a4, a5, a6] nx [] 0 len [b0, b1, b2, b3, b4, b5, b6] Ya Yb) := by
    intro Ya Yb
    refine ⟨?_, ?_⟩
    · show ((len : Int) : Int) ≠ 16; omega
    · show (0 : Int) ≤ ((len : Int) : Int); omega
  have tabG : TabOK Try.prog (sval [a0, a1, a2, a3, a4, a5, a6] nx [] 0 len [b0, b1, b2, b3, b4, b5, b6] [y0, y1, y2, y3, y4, y5, y6, y7] [z0, z1, z2, z3, z4, z5, z6, z7]) (fun _ => (oa, cap)) tG := by
    intro x hx
    simp only [tG, List.mem_cons, List.not_mem_nil, or_false] at hx
    rcases hx with rfl | rfl | rfl | rfl
    · exact ja (8, [.g 0 7, .i 7]) (by simp [specs])
    · exact ja (10, [.i 7]) (by simp [specs])
    · exact jb (8, [.g 0 7, .i 7]) (by simp [specs])
    · exact jb (10, [.i 7]) (by simp [specs])
  by_cases ea : y7 = 0
  · by_cases eb : z7 = 0
    · have pa := pa ea
      have pb := pb eb
      obtain ⟨rfl, rfl⟩ : y5 = a5 ∧ y6 = a6 := pa
      obtain ⟨rfl, rfl⟩ : z5 = b5 ∧ z6 = b6 := pb
      subst ea eb
      have tabO : TabOK Try.prog (sval [a0, a1, a2, a3, a4, y5, y6] nx [] 0 len [b0, b1, b2, b3, b4, z5, z6] [y0, y1, y2, y3, y4, y5, y6, 0] [z0, z1, z2, z3, z4, z5, z6, 0]) (fun _ => (oa, cap)) tO := by
        intro x hx
        simp only [tO, List.mem_cons, List.not_mem_nil, or_false] at hx
        rcases hx with rfl | rfl | rfl | rfl
        · exact ja (8, [.g 0 7, .i 7]) (by simp [specs])
        · exact ja (10, [.i 7]) (by simp [specs])
        · exact jb (8, [.g 0 7, .i 7]) (by simp [specs])
        · exact jb (10, [.i 7]) (by simp [specs])
      have hl := hlen [y0, y1, y2, y3, y4, y5, y6, 0] [z0, z1, z2, z3, z4, z5, z6, 0]
      cases hphi : (phi 40 50 0 32).eval (sval [a0, a1, a2, a3, a4, y5, y6] nx [] 0 len [b0, b1, b2, b3, b4, z5, z6] [y0, y1, y2, y3, y4, y5, y6, 0] [z0, z1, z2, z3, z4, z5, z6, 0]) with
      | false => exact sameLno _ (holds_cons hphi (holds_cons ((phi_swap _ 40 50 0 32).trans hphi) (holds2 hl.1 hl.2))) (fun _ => (oa, cap)) tabO E0 w (outNil _ _)
      | true =>
        obtain ⟨_, _, _, _, _, e5, e6⟩ := phi_true hphi
        exact sameLyes _ (holds_cons hphi (holds_cons ((phi_swap _ 40 50 0 32).trans hphi) (holds_cons (beq_of e5) (holds_cons (beq_of e6) (holds2 hl.1 hl.2))))) (fun _ => (oa, cap)) tabO E0 w (outNil _ _)
    · exact sameLeb _ (holds3 (show (Fact.ne (.a 57) 0).holds (sval [a0, a1, a2, a3, a4, a5, a6] nx [] 0 len [b0, b1, b2, b3, b4, b5, b6] [y0, y1, y2, y3, y4, y5, y6, y7] [z0, z1, z2, z3, z4, z5, z6, z7]) from eb) (hlen _ _).1 (hlen _ _).2) (fun _ => (oa, cap)) tabG E0 w (outNil _ _)
  · exact sameLea _ (holds3 (show (Fact.ne (.a 47) 0).holds (sval [a0, a1, a2, a3, a4, a5, a6] nx [] 0 len [b0, b1, b2, b3, b4, b5, b6] [y0, y1, y2, y3, y4, y5, y6, y7] [z0, z1, z2, z3, z4, z5, z6, z7]) from ea) (hlen _ _).1 (hlen _ _).2) (fun _ => (oa, cap)) tabG E0 w (outNil _ _)

set_option maxHeartbeats 4000000 in
/-- Sixteen numbers. -/
theorem sixteen (a0 a1 a2 a3 a4 a5 a6 b0 b1 b2 b3 b4 b5 b6 : Int) (b off cap : Nat) (zs : List Int) (h16 : zs.length = 16) (hcap : zs.length ≤ cap) (nx : Int) (w : World) (hb : b < w.heap.size) (hc : ∀ (i : Nat) (n : Int), zs[i]? = some n → w.cell? ⟨b, off + i, none⟩ = some (.int .i64 n)) :
    Calls Try.prog 7 #[.agg ([a0, a1, a2, a3, a4, a5, a6].map fun n => Value.int .i64 n).toArray, .agg ([b0, b1, b2, b3, b4, b5, b6].map fun n => Value.int .i64 n).toArray, .slice (some ⟨b, off, none⟩) 16 cap, .int .i64 nx] w fun e w' => e = .returned (.bool true) ∧ RowKit.Below w.heap.size w w' := by
  have hcap16 : ∀ a bb Ya Yb, (Fact.ge (.a 30) 16).holds (sval a nx zs cap 0 bb Ya Yb) := by
    intro a bb Ya Yb
    show (16 : Int) ≤ ((cap : Int) : Int)
    omega
  obtain ⟨Ya, la, ja, pa⟩ := sameJ (sval [a0, a1, a2, a3, a4, a5, a6] nx zs cap 0 [] [] []) (holds_cons (hcap16 _ _ _ _) holds_nil)
  obtain ⟨Yb, lb, jb, pb⟩ := sameJ (sval [b0, b1, b2, b3, b4, b5, b6] nx zs cap 0 [] [] []) (holds_cons (hcap16 _ _ _ _) holds_nil)
  obtain ⟨y0, y1, y2, y3, y4, y5, y6, y7, y8, y9, rfl⟩ := row10 la
  obtain ⟨z0, z1, z2, z3, z4, z5, z6, z7, z8, z9, rfl⟩ := row10 lb
  have none' : ∀ val, TabOK Try.prog val sla0 [] := fun val x hx => by cases hx
  have tabG : TabOKO Try.prog (sval [a0, a1, a2, a3, a4, a5, a6] nx zs cap 0 [b0, b1, b2, b3, b4, b5, b6] [y0, y1, y2, y3, y4, y5, y6, y7, y8, y9] [z0, z1, z2, z3, z4, z5, z6, z7, z8, z9]) sla0 outs16 (tG ++ adG) := by
    intro x hx
    simp only [tG, adG, List.cons_append, List.nil_append, List.mem_cons, List.not_mem_nil, or_false] at hx
    rcases hx with rfl | rfl | rfl | rfl | rfl | rfl <;> intro E w hout
    · exact ja (8, [nmA 0], [.g 0 7, .i 7]) (by simp [specsO]) E w (outS_iff hout)
    · exact ja (10, [nmA 0], [.i 7]) (by simp [specsO]) E w (outS_iff hout)
    · exact jb (8, [nmA 0], [.g 0 7, .i 7]) (by simp [specsO]) E w (outS_iff hout)
    · exact jb (10, [nmA 0], [.i 7]) (by simp [specsO]) E w (outS_iff hout)
    · exact ja (16, [nmA 0, regsO, .sx .i64 (.a 7)], [.i 8, .i 9]) (by simp [specsO]) E w (outS_iff hout)
    · exact jb (16, [nmA 0, regsO, .sx .i64 (.a 7)], [.i 8, .i 9]) (by simp [specsO]) E w (outS_iff hout)
  have hout := fun a bb Ya Yb => outS (w := w) a nx (cap : Int) 0 bb Ya Yb h16 hb hc
  by_cases ea : y7 = 0
  · by_cases eb : z7 = 0
    · have pa := pa ea
      have pb := pb eb
      obtain ⟨rfl, rfl, rfl, hA⟩ : y5 = a5 ∧ y6 = a6 ∧ y9 = 0 ∧ y8 = addrF _ _ := pa
      obtain ⟨rfl, rfl, rfl, hB⟩ : z5 = b5 ∧ z6 = b6 ∧ z9 = 0 ∧ z8 = addrF _ _ := pb
      subst ea eb
      cases hphi : (phi 40 50 0 32).eval (sval [a0, a1, a2, a3, a4, y5, y6] nx zs cap 0 [b0, b1, b2, b3, b4, z5, z6] [y0, y1, y2, y3, y4, y5, y6, 0, y8, 0] [z0, z1, z2, z3, z4, z5, z6, 0, z8, 0]) with
      | false =>
        have tabO : TabOKO Try.prog (sval [a0, a1, a2, a3, a4, y5, y6] nx zs cap 0 [b0, b1, b2, b3, b4, z5, z6] [y0, y1, y2, y3, y4, y5, y6, 0, y8, 0] [z0, z1, z2, z3, z4, z5, z6, 0, z8, 0]) sla0 outs16 (tO ++ adG) := by
          intro x hx
          simp only [tO, adG, List.cons_append, List.nil_append, List.mem_cons, List.not_mem_nil, or_false] at hx
          rcases hx with rfl | rfl | rfl | rfl | rfl | rfl <;> intro E w hout
          · exact ja (8, [nmA 0], [.g 0 7, .i 7]) (by simp [specsO]) E w (outS_iff hout)
          · exact ja (10, [nmA 0], [.i 7]) (by simp [specsO]) E w (outS_iff hout)
          · exact jb (8, [nmA 0], [.g 0 7, .i 7]) (by simp [specsO]) E w (outS_iff hout)
          · exact jb (10, [nmA 0], [.i 7]) (by simp [specsO]) E w (outS_iff hout)
          · exact ja (16, [nmA 0, regsO, .sx .i64 (.a 7)], [.i 8, .i 9]) (by simp [specsO]) E w (outS_iff hout)
          · exact jb (16, [nmA 0, regsO, .sx .i64 (.a 7)], [.i 8, .i 9]) (by simp [specsO]) E w (outS_iff hout)
        exact same16no _ (holds_cons hphi (holds_cons ((phi_swap _ 40 50 0 32).trans hphi) (holds_cons (hcap16 _ _ _ _) holds_nil))) (none' _) tabO ⟨fun _ => b, fun _ => off⟩ w (hout _ _ _ _)
      | true =>
        obtain ⟨e0, e1, e2, e3, e4, e5, e6⟩ := phi_true hphi
        have hz : z8 = y8 := by
          rw [hA, hB, addrF_ab [b0, b1, b2, b3, b4, z5, z6] [a0, a1, a2, a3, a4, y5, y6]]
          have e0 : y0 = z0 := e0
          have e1 : y1 = z1 := e1
          have e2 : y2 = z2 := e2
          have e3 : y3 = z3 := e3
          have e4 : y4 = z4 := e4
          have e5 : y5 = z5 := e5
          simp only [addrF, List.getD_cons_zero, List.getD_cons_succ, e0, e1, e2, e3, e4, e5]
        have tabS : TabOKO Try.prog (sval [a0, a1, a2, a3, a4, y5, y6] nx zs cap 0 [b0, b1, b2, b3, b4, z5, z6] [y0, y1, y2, y3, y4, y5, y6, 0, y8, 0] [z0, z1, z2, z3, z4, z5, z6, 0, z8, 0]) sla0 outs16 (tO ++ adS) := by
          intro x hx
          simp only [tO, adS, List.cons_append, List.nil_append, List.mem_cons, List.not_mem_nil, or_false] at hx
          rcases hx with rfl | rfl | rfl | rfl | rfl | rfl <;> intro E w hout
          · exact ja (8, [nmA 0], [.g 0 7, .i 7]) (by simp [specsO]) E w (outS_iff hout)
          · exact ja (10, [nmA 0], [.i 7]) (by simp [specsO]) E w (outS_iff hout)
          · exact jb (8, [nmA 0], [.g 0 7, .i 7]) (by simp [specsO]) E w (outS_iff hout)
          · exact jb (10, [nmA 0], [.i 7]) (by simp [specsO]) E w (outS_iff hout)
          · exact ja (16, [nmA 0, regsO, .sx .i64 (.a 7)], [.i 8, .i 9]) (by simp [specsO]) E w (outS_iff hout)
          · have := jb (16, [nmA 0, regsO, .sx .i64 (.a 7)], [.i 8, .i 9]) (by simp [specsO]) E w (outS_iff hout)
            rw [hz] at this
            exact this
        exact same16yes _ (holds_cons hphi (holds_cons ((phi_swap _ 40 50 0 32).trans hphi) (holds_cons (beq_of e5) (holds_cons (beq_of e6) (holds_cons (hcap16 _ _ _ _) holds_nil))))) (none' _) tabS ⟨fun _ => b, fun _ => off⟩ w (hout _ _ _ _)
    · exact same16eb _ (holds2 (show (Fact.ne (.a 57) 0).holds (sval [a0, a1, a2, a3, a4, a5, a6] nx zs cap 0 [b0, b1, b2, b3, b4, b5, b6] [y0, y1, y2, y3, y4, y5, y6, y7, y8, y9] [z0, z1, z2, z3, z4, z5, z6, z7, z8, z9]) from eb) (hcap16 _ _ _ _)) (none' _) tabG ⟨fun _ => b, fun _ => off⟩ w (hout _ _ _ _)
  · exact same16ea _ (holds2 (show (Fact.ne (.a 47) 0).holds (sval [a0, a1, a2, a3, a4, a5, a6] nx zs cap 0 [b0, b1, b2, b3, b4, b5, b6] [y0, y1, y2, y3, y4, y5, y6, y7, y8, y9] [z0, z1, z2, z3, z4, z5, z6, z7, z8, z9]) from ea) (hcap16 _ _ _ _)) (none' _) tabG ⟨fun _ => b, fun _ => off⟩ w (hout _ _ _ _)

theorem walk (la : List Int) (ha : la.length = 7) (_ : ∀ n ∈ la, (Lit.int .i64 n).wf = true) (lb : List Int) (hlb : lb.length = 7) (_ : ∀ n ∈ lb, (Lit.int .i64 n).wf = true) (v : Value) (nx : Int) (_ : (Lit.int .i64 nx).wf = true) (w : World) (hs : SliceIn w .i64 v) :
    Calls Try.prog 7 #[.agg (la.map fun n => Value.int .i64 n).toArray, .agg (lb.map fun n => Value.int .i64 n).toArray, v, .int .i64 nx] w fun e w' => e = .returned (.bool true) ∧ RowKit.Below w.heap.size w w' := by
  obtain ⟨a0, a1, a2, a3, a4, a5, a6, rfl⟩ := row7 ha
  obtain ⟨b0, b1, b2, b3, b4, b5, b6, rfl⟩ := row7 hlb
  rcases hs with ⟨oa, cap, rfl⟩ | ⟨b, off, cap, zs, hpos, rfl, hcap, hb, hc, _⟩
  · exact long _ _ _ _ _ _ _ _ _ _ _ _ _ _ oa 0 cap (by omega) nx w
  · by_cases h16 : zs.length = 16
    · have := sixteen a0 a1 a2 a3 a4 a5 a6 b0 b1 b2 b3 b4 b5 b6 b off cap zs h16 hcap nx w hb hc
      rw [h16]
      exact this
    · exact long _ _ _ _ _ _ _ _ _ _ _ _ _ _ _ zs.length cap h16 nx w

end Go.Proofs.Ytlegmdfceifkcaa.memSame
