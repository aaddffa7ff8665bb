/-
  'UnaryApart' says true of any two numbers: the ways through it, each a run; the ways that cannot be, by a look at all pairs of rows.
-/
import Derived.Test.YtnjfpgddppnehaaTab
import Derived.Test.YtnjfpgddppnehaaPick
import Derived.Test.YtnjfpgddppnehaaSimB
import Derived.KernelRfl
namespace Go.Proofs.Ytnjfpgddppnehaa.Apart
open Go.Sim Go.Proofs.Ytnjfpgddppnehaa.Tab
set_option maxRecDepth 100000

def T0 : List Int := [0, 1, 0, 0, 0, 1, 0, 0, 0, 1, 0, 0, 0, 1, 0, 0, 0, 1, 0, 0, 0, 1, 0, 0, 0, 1, 0, 0, 0, 1, 0, 0, 0, 1, 0, 0, 0, 1, 0, 0, 0, 1, 0, 0, 0, 1, 0, 0, 0, 1, 0, 0, 0, 1, 0, 0, 0, 1, 0, 0, 0, 1, 0, 0, 0, 1, 0, 0, 0, 1, 0, 0, 0, 1, 0, 0, 0, 1, 0, 0, 0, 1, 0, 0, 0, 1, 0, 0, 0, 1, 0, 0, 0, 1, 0, 0, 0, 1, 0, 0, 0, 1, 0, 0, 0, 1, 0, 0, 0, 1, 0, 0, 0, 1, 0, 0, 1, 0, 0, 1, 0, 0, 1, 0, 0, 1, 0, 0, 0, 0, 0, 1, 0, 0, 0, 1, 0, 0, 1, 0, 0, 1, 0, 0, 1, 0, 0, 1, 0, 0, 1, 0, 0, 1, 0, 0, 1, 0, 0, 1, 0, 0, 1, 0, 0, 1, 0, 0, 1, 0, 0, 1, 0, 0]

def T1 : List Int := [0, 0, 0, 1, 0, 0, 0, 1, 0, 0, 0, 1, 0, 0, 0, 1, 0, 0, 0, 1, 0, 0, 0, 1, 0, 0, 0, 1, 0, 0, 0, 1, 0, 0, 0, 1, 0, 0, 0, 1, 0, 0, 0, 1, 0, 0, 0, 1, 0, 0, 0, 1, 0, 0, 0, 1, 0, 0, 0, 1, 0, 0, 0, 1, 0, 0, 0, 1, 0, 0, 0, 1, 0, 0, 0, 1, 0, 0, 0, 1, 0, 0, 0, 1, 0, 0, 0, 1, 0, 0, 0, 1, 0, 0, 0, 1, 0, 0, 0, 1, 0, 0, 0, 1, 0, 0, 0, 1, 0, 0, 0, 1, 0, 0, 0, 1, 0, 0, 1, 0, 0, 1, 0, 0, 1, 0, 0, 1, 0, 1, 0, 0, 0, 1, 0, 0, 0, 1, 0, 0, 1, 0, 0, 1, 0, 0, 1, 0, 0, 1, 0, 0, 1, 0, 0, 1, 0, 0, 1, 0, 0, 1, 0, 0, 1, 0, 0, 1, 0, 0, 1, 0, 0, 1]

def T2 : List Int := [0, 0, 0, 0, 0, 0, 0, 0, 0, 0, 0, 0, 0, 0, 0, 0, 0, 0, 0, 0, 0, 0, 0, 0, 0, 0, 0, 0, 0, 0, 0, 0, 0, 0, 0, 0, 0, 0, 0, 0, 0, 0, 0, 0, 0, 0, 0, 0, 0, 0, 0, 0, 0, 0, 0, 0, 0, 0, 0, 0, 0, 0, 0, 0, 0, 0, 0, 0, 0, 0, 0, 0, 0, 0, 0, 0, 0, 0, 0, 0, 0, 0, 0, 0, 0, 0, 0, 0, 0, 0, 0, 0, 0, 0, 0, 0, 0, 0, 0, 0, 0, 0, 0, 0, 0, 0, 0, 0, 0, 0, 0, 0, 0, 0, 0, 0, 1, 1, 1, 1, 1, 1, 1, 1, 1, 1, 1, 1, 1, 1, 1, 1, 1, 1, 1, 1, 1, 1, 1, 1, 1, 1, 1, 1, 1, 1, 1, 1, 1, 1, 1, 1, 1, 1, 1, 1, 1, 1, 1, 1, 1, 1, 1, 1, 1, 1, 1, 1, 0, 0, 0, 0, 0, 0]

def T3 : List Int := [254, 255, 255, 255, 254, 255, 255, 255, 246, 247, 247, 247, 246, 247, 247, 247, 246, 247, 247, 247, 246, 247, 247, 247, 246, 247, 247, 247, 246, 247, 247, 247, 208, 209, 209, 209, 210, 211, 211, 211, 192, 193, 193, 193, 208, 209, 209, 209, 210, 211, 211, 211, 192, 193, 193, 193, 208, 209, 209, 209, 210, 211, 211, 211, 192, 193, 193, 193, 208, 209, 209, 209, 210, 211, 211, 211, 192, 193, 193, 193, 208, 209, 209, 209, 210, 211, 211, 211, 192, 193, 193, 193, 208, 209, 209, 209, 210, 211, 211, 211, 192, 193, 193, 193, 208, 209, 209, 209, 210, 211, 211, 211, 192, 193, 193, 193, 164, 164, 164, 165, 165, 165, 172, 172, 172, 173, 173, 173, 200, 200, 192, 193, 193, 193, 176, 177, 177, 177, 163, 163, 163, 186, 186, 186, 171, 171, 171, 186, 186, 186, 179, 179, 179, 186, 186, 186, 187, 187, 187, 186, 186, 186, 188, 188, 188, 189, 189, 189, 152, 152, 152, 153, 153, 153]

def T4 : List Int := [0, 0, 0, 0, 1, 1, 1, 1, 3, 3, 3, 3, 2, 2, 2, 2, 4, 4, 4, 4, 5, 5, 5, 5, 6, 6, 6, 6, 7, 7, 7, 7, 0, 0, 0, 0, 0, 0, 0, 0, 0, 0, 0, 0, 1, 1, 1, 1, 1, 1, 1, 1, 1, 1, 1, 1, 2, 2, 2, 2, 2, 2, 2, 2, 2, 2, 2, 2, 3, 3, 3, 3, 3, 3, 3, 3, 3, 3, 3, 3, 4, 4, 4, 4, 4, 4, 4, 4, 4, 4, 4, 4, 5, 5, 5, 5, 5, 5, 5, 5, 5, 5, 5, 5, 7, 7, 7, 7, 7, 7, 7, 7, 7, 7, 7, 7, (-1), (-1), (-1), (-1), (-1), (-1), (-1), (-1), (-1), (-1), (-1), (-1), (-1), (-1), (-1), (-1), (-1), (-1), (-1), (-1), (-1), (-1), (-1), (-1), (-1), 4, 4, 4, (-1), (-1), (-1), 5, 5, 5, (-1), (-1), (-1), 6, 6, 6, (-1), (-1), (-1), 7, 7, 7, (-1), (-1), (-1), (-1), (-1), (-1), (-1), (-1), (-1), (-1), (-1), (-1)]

abbrev sl0 : Nat → Option Addr × Nat := fun _ => (none, 0)

abbrev tab : List (FuncId × List AV × AV) := [(13, [.sx .i64 (.a 0), .v (.int .i64 (.ofNat 174))], .sx .i64 (.a 2)), (13, [.sx .i64 (.a 1), .v (.int .i64 (.ofNat 174))], .sx .i64 (.a 3))]

abbrev args : List AV := [.sx .i64 (.a 0), .sx .i64 (.a 1)]

def Q (val : Nat → Int) : Prop := Ret Try.prog 5 [.int .i64 (val 0), .int .i64 (val 1)] (.bool true)

theorem leaf {val : Nat → Int} {F : List Fact} (h : Holds val F) (ht : TabOK Try.prog val sl0 tab) (hg : saysTrue (@run (symsOf val F h sl0) Try.prog (orElse orc (tabO tab)) 1000 5 args) = true) : Q val := by
  have := leafTab (orc := orc) h orcOK mix (by kernel_rfl) (by kernel_rfl) (by kernel_rfl) ht hg
  simp only [concs, conc, SX.eval] at this
  exact this

/-! All pairs of rows. -/

abbrev Row := Nat × Nat × Nat

def R (x y : Row) : Bool := !(Nat.beq x.1 y.1) || (Nat.ble 1 x.2.2 && Nat.ble 1 y.2.2 && !Nat.beq x.2.2 y.2.2) || (Nat.ble 1 x.2.1 && Nat.ble 1 y.2.1 && !Nat.beq x.2.1 y.2.1)

def apartL : List Row → Bool
  | [] => true
  | x :: r => r.all (fun y => R x y && R y x) && apartL r

theorem apartL_pw : ∀ (l : List Row), apartL l = true → l.Pairwise (fun x y => R x y = true ∧ R y x = true)
  | [], _ => List.Pairwise.nil
  | x :: r, h => by
    simp only [apartL, Bool.and_eq_true, List.all_eq_true] at h
    exact List.Pairwise.cons (fun y hy => h.1 y hy) (apartL_pw r h.2)

theorem apart_fn (f : Nat → Row) (n : Nat) (lit : List Row) (he : (List.range n).map f = lit) (h : apartL lit = true) (i k : Nat) (hi : i < n) (hk : k < n) (hne : i ≠ k) : R (f i) (f k) = true := by
  subst he
  have hp := List.pairwise_iff_getElem.1 (apartL_pw _ h)
  rcases Nat.lt_or_gt_of_ne hne with hlt | hlt
  · have := (hp i k (by simpa using hi) (by simpa using hk) hlt).1
    simpa using this
  · have := (hp k i (by simpa using hk) (by simpa using hi) hlt).2
    simpa using this

def rowOf (i : Nat) : Row := (((((0) * 1000 + (T0.getD i (T0.headD 0) + 1).toNat) * 1000 + (T1.getD i (T1.headD 0) + 1).toNat) * 1000 + (T2.getD i (T2.headD 0) + 1).toNat) * 1000 + (T3.getD i (T3.headD 0) + 1).toNat, (T4.getD i (T4.headD 0) + 1).toNat, 0)

def lit : List Row := [(1001001255, 1, 0), (2001001256, 1, 0), (1001001256, 1, 0), (1002001256, 1, 0), (1001001255, 2, 0), (2001001256, 2, 0), (1001001256, 2, 0), (1002001256, 2, 0), (1001001247, 4, 0), (2001001248, 4, 0), (1001001248, 4, 0), (1002001248, 4, 0), (1001001247, 3, 0), (2001001248, 3, 0), (1001001248, 3, 0), (1002001248, 3, 0), (1001001247, 5, 0), (2001001248, 5, 0), (1001001248, 5, 0), (1002001248, 5, 0), (1001001247, 6, 0), (2001001248, 6, 0), (1001001248, 6, 0), (1002001248, 6, 0), (1001001247, 7, 0), (2001001248, 7, 0), (1001001248, 7, 0), (1002001248, 7, 0), (1001001247, 8, 0), (2001001248, 8, 0), (1001001248, 8, 0), (1002001248, 8, 0), (1001001209, 1, 0), (2001001210, 1, 0), (1001001210, 1, 0), (1002001210, 1, 0), (1001001211, 1, 0), (2001001212, 1, 0), (1001001212, 1, 0), (1002001212, 1, 0), (1001001193, 1, 0), (2001001194, 1, 0), (1001001194, 1, 0), (1002001194, 1, 0), (1001001209, 2, 0), (2001001210, 2, 0), (1001001210, 2, 0), (1002001210, 2, 0), (1001001211, 2, 0), (2001001212, 2, 0), (1001001212, 2, 0), (1002001212, 2, 0), (1001001193, 2, 0), (2001001194, 2, 0), (1001001194, 2, 0), (1002001194, 2, 0), (1001001209, 3, 0), (2001001210, 3, 0), (1001001210, 3, 0), (1002001210, 3, 0), (1001001211, 3, 0), (2001001212, 3, 0), (1001001212, 3, 0), (1002001212, 3, 0), (1001001193, 3, 0), (2001001194, 3, 0), (1001001194, 3, 0), (1002001194, 3, 0), (1001001209, 4, 0), (2001001210, 4, 0), (1001001210, 4, 0), (1002001210, 4, 0), (1001001211, 4, 0), (2001001212, 4, 0), (1001001212, 4, 0), (1002001212, 4, 0), (1001001193, 4, 0), (2001001194, 4, 0), (1001001194, 4, 0), (1002001194, 4, 0), (1001001209, 5, 0), (2001001210, 5, 0), (1001001210, 5, 0), (1002001210, 5, 0), (1001001211, 5, 0), (2001001212, 5, 0), (1001001212, 5, 0), (1002001212, 5, 0), (1001001193, 5, 0), (2001001194, 5, 0), (1001001194, 5, 0), (1002001194, 5, 0), (1001001209, 6, 0), (2001001210, 6, 0), (1001001210, 6, 0), (1002001210, 6, 0), (1001001211, 6, 0), (2001001212, 6, 0), (1001001212, 6, 0), (1002001212, 6, 0), (1001001193, 6, 0), (2001001194, 6, 0), (1001001194, 6, 0), (1002001194, 6, 0), (1001001209, 8, 0), (2001001210, 8, 0), (1001001210, 8, 0), (1002001210, 8, 0), (1001001211, 8, 0), (2001001212, 8, 0), (1001001212, 8, 0), (1002001212, 8, 0), (1001001193, 8, 0), (2001001194, 8, 0), (1001001194, 8, 0), (1002001194, 8, 0), (2001002165, 0, 0), (1001002165, 0, 0), (1002002165, 0, 0), (2001002166, 0, 0), (1001002166, 0, 0), (1002002166, 0, 0), (2001002173, 0, 0), (1001002173, 0, 0), (1002002173, 0, 0), (2001002174, 0, 0), (1001002174, 0, 0), (1002002174, 0, 0), (1001002201, 0, 0), (1002002201, 0, 0), (1001002193, 0, 0), (2001002194, 0, 0), (1001002194, 0, 0), (1002002194, 0, 0), (1001002177, 0, 0), (2001002178, 0, 0), (1001002178, 0, 0), (1002002178, 0, 0), (2001002164, 0, 0), (1001002164, 0, 0), (1002002164, 0, 0), (2001002187, 5, 0), (1001002187, 5, 0), (1002002187, 5, 0), (2001002172, 0, 0), (1001002172, 0, 0), (1002002172, 0, 0), (2001002187, 6, 0), (1001002187, 6, 0), (1002002187, 6, 0), (2001002180, 0, 0), (1001002180, 0, 0), (1002002180, 0, 0), (2001002187, 7, 0), (1001002187, 7, 0), (1002002187, 7, 0), (2001002188, 0, 0), (1001002188, 0, 0), (1002002188, 0, 0), (2001002187, 8, 0), (1001002187, 8, 0), (1002002187, 8, 0), (2001002189, 0, 0), (1001002189, 0, 0), (1002002189, 0, 0), (2001002190, 0, 0), (1001002190, 0, 0), (1002002190, 0, 0), (2001001153, 0, 0), (1001001153, 0, 0), (1002001153, 0, 0), (2001001154, 0, 0), (1001001154, 0, 0), (1002001154, 0, 0)]

theorem litEq : (List.range 174).map rowOf = lit := by kernel_rfl

theorem litApart : apartL lit = true := by kernel_rfl

theorem none_such {val : Nat → Int} (r0 : 0 ≤ val 2) (r1 : val 2 ≤ 173) (r2 : 0 ≤ val 3) (r3 : val 3 ≤ 173) (hne : val 2 ≠ val 3) (c0 : (SX.tab T0 (.a 2)).eval val = (SX.tab T0 (.a 3)).eval val) (c1 : (SX.tab T1 (.a 2)).eval val = (SX.tab T1 (.a 3)).eval val) (c2 : (SX.tab T2 (.a 2)).eval val = (SX.tab T2 (.a 3)).eval val) (c3 : (SX.tab T3 (.a 2)).eval val = (SX.tab T3 (.a 3)).eval val) : 0 ≤ (SX.tab T4 (.a 2)).eval val ∧ 0 ≤ (SX.tab T4 (.a 3)).eval val ∧ (SX.tab T4 (.a 2)).eval val ≠ (SX.tab T4 (.a 3)).eval val := by
  simp only [SX.eval] at c0 c1 c2 c3 ⊢
  have h := apart_fn rowOf 174 lit litEq litApart (val 2).toNat (val 3).toNat (by omega) (by omega) (by omega)
  have e : (rowOf (val 2).toNat).1 = (rowOf (val 3).toNat).1 := by
    simp only [rowOf]
    rw [c0, c1, c2, c3]
  simp only [R, Bool.or_eq_true, Bool.and_eq_true, Bool.not_eq_true'] at h
  rcases h with (h | h) | h
  · exact absurd e (Nat.ne_of_beq_eq_false h)
  · have h1 := Nat.le_of_ble_eq_true h.1.1
    have h2 := Nat.le_of_ble_eq_true h.1.2
    have h3 := Nat.ne_of_beq_eq_false h.2
    simp only [rowOf] at h1 h2 h3
    omega
  · have h1 := Nat.le_of_ble_eq_true h.1.1
    have h2 := Nat.le_of_ble_eq_true h.1.2
    have h3 := Nat.ne_of_beq_eq_false h.2
    simp only [rowOf] at h1 h2 h3
    omega

theorem l0 {val : Nat → Int} (h : Holds val [.at (.eq (.a 2) (.a 3)) true, .at (.eq (.tab T2 (.a 2)) (.tab T2 (.a 3))) true, .at (.eq (.tab T1 (.a 2)) (.tab T1 (.a 3))) true, .at (.eq (.tab T0 (.a 2)) (.tab T0 (.a 3))) true, .ge (.a 2) 0, .le (.a 2) 173, .ge (.a 3) 0, .le (.a 3) 173]) (ht : TabOK Try.prog val sl0 tab) : Q val := leaf h ht (by kernel_rfl)

theorem l1 {val : Nat → Int} (h : Holds val [.at (.eq (.tab T4 (.a 2)) (.tab T4 (.a 3))) true, .ge (.tab T4 (.a 3)) 0, .ge (.tab T4 (.a 2)) 0, .at (.eq (.tab T3 (.a 2)) (.tab T3 (.a 3))) true, .at (.eq (.a 2) (.a 3)) false, .at (.eq (.tab T2 (.a 2)) (.tab T2 (.a 3))) true, .at (.eq (.tab T1 (.a 2)) (.tab T1 (.a 3))) true, .at (.eq (.tab T0 (.a 2)) (.tab T0 (.a 3))) true, .ge (.a 2) 0, .le (.a 2) 173, .ge (.a 3) 0, .le (.a 3) 173]) (_ : TabOK Try.prog val sl0 tab) : Q val := by
  exfalso
  have f0 : (SX.tab T4 (.a 2)).eval val = (SX.tab T4 (.a 3)).eval val := eq_of_beq (h _ (List.Mem.head _))
  have f1 : 0 ≤ (SX.tab T4 (.a 3)).eval val := h _ (List.Mem.tail _ (List.Mem.head _))
  have f2 : 0 ≤ (SX.tab T4 (.a 2)).eval val := h _ (List.Mem.tail _ (List.Mem.tail _ (List.Mem.head _)))
  have f3 : (SX.tab T3 (.a 2)).eval val = (SX.tab T3 (.a 3)).eval val := eq_of_beq (h _ (List.Mem.tail _ (List.Mem.tail _ (List.Mem.tail _ (List.Mem.head _)))))
  have f4 : val 2 ≠ val 3 := ne_of_beq_false (h _ (List.Mem.tail _ (List.Mem.tail _ (List.Mem.tail _ (List.Mem.tail _ (List.Mem.head _))))))
  have f5 : (SX.tab T2 (.a 2)).eval val = (SX.tab T2 (.a 3)).eval val := eq_of_beq (h _ (List.Mem.tail _ (List.Mem.tail _ (List.Mem.tail _ (List.Mem.tail _ (List.Mem.tail _ (List.Mem.head _)))))))
  have f6 : (SX.tab T1 (.a 2)).eval val = (SX.tab T1 (.a 3)).eval val := eq_of_beq (h _ (List.Mem.tail _ (List.Mem.tail _ (List.Mem.tail _ (List.Mem.tail _ (List.Mem.tail _ (List.Mem.tail _ (List.Mem.head _))))))))
  have f7 : (SX.tab T0 (.a 2)).eval val = (SX.tab T0 (.a 3)).eval val := eq_of_beq (h _ (List.Mem.tail _ (List.Mem.tail _ (List.Mem.tail _ (List.Mem.tail _ (List.Mem.tail _ (List.Mem.tail _ (List.Mem.tail _ (List.Mem.head _)))))))))
  have f8 : 0 ≤ val 2 := h _ (List.Mem.tail _ (List.Mem.tail _ (List.Mem.tail _ (List.Mem.tail _ (List.Mem.tail _ (List.Mem.tail _ (List.Mem.tail _ (List.Mem.tail _ (List.Mem.head _)))))))))
  have f9 : val 2 ≤ 173 := h _ (List.Mem.tail _ (List.Mem.tail _ (List.Mem.tail _ (List.Mem.tail _ (List.Mem.tail _ (List.Mem.tail _ (List.Mem.tail _ (List.Mem.tail _ (List.Mem.tail _ (List.Mem.head _))))))))))
  have f10 : 0 ≤ val 3 := h _ (List.Mem.tail _ (List.Mem.tail _ (List.Mem.tail _ (List.Mem.tail _ (List.Mem.tail _ (List.Mem.tail _ (List.Mem.tail _ (List.Mem.tail _ (List.Mem.tail _ (List.Mem.tail _ (List.Mem.head _)))))))))))
  have f11 : val 3 ≤ 173 := h _ (List.Mem.tail _ (List.Mem.tail _ (List.Mem.tail _ (List.Mem.tail _ (List.Mem.tail _ (List.Mem.tail _ (List.Mem.tail _ (List.Mem.tail _ (List.Mem.tail _ (List.Mem.tail _ (List.Mem.tail _ (List.Mem.head _))))))))))))
  have hn := none_such (val := val) (by omega) (by omega) (by omega) (by omega) (by omega) (by omega) (by omega) (by omega) (by omega)
  omega

theorem l2 {val : Nat → Int} (h : Holds val [.at (.eq (.tab T4 (.a 2)) (.tab T4 (.a 3))) false, .ge (.tab T4 (.a 3)) 0, .ge (.tab T4 (.a 2)) 0, .at (.eq (.tab T3 (.a 2)) (.tab T3 (.a 3))) true, .at (.eq (.a 2) (.a 3)) false, .at (.eq (.tab T2 (.a 2)) (.tab T2 (.a 3))) true, .at (.eq (.tab T1 (.a 2)) (.tab T1 (.a 3))) true, .at (.eq (.tab T0 (.a 2)) (.tab T0 (.a 3))) true, .ge (.a 2) 0, .le (.a 2) 173, .ge (.a 3) 0, .le (.a 3) 173]) (ht : TabOK Try.prog val sl0 tab) : Q val := leaf h ht (by kernel_rfl)

theorem l3 {val : Nat → Int} (h : Holds val [.le (.tab T4 (.a 3)) (-1), .ge (.tab T4 (.a 2)) 0, .at (.eq (.tab T3 (.a 2)) (.tab T3 (.a 3))) true, .at (.eq (.a 2) (.a 3)) false, .at (.eq (.tab T2 (.a 2)) (.tab T2 (.a 3))) true, .at (.eq (.tab T1 (.a 2)) (.tab T1 (.a 3))) true, .at (.eq (.tab T0 (.a 2)) (.tab T0 (.a 3))) true, .ge (.a 2) 0, .le (.a 2) 173, .ge (.a 3) 0, .le (.a 3) 173]) (_ : TabOK Try.prog val sl0 tab) : Q val := by
  exfalso
  have f0 : (SX.tab T4 (.a 3)).eval val ≤ (-1) := h _ (List.Mem.head _)
  have f1 : 0 ≤ (SX.tab T4 (.a 2)).eval val := h _ (List.Mem.tail _ (List.Mem.head _))
  have f2 : (SX.tab T3 (.a 2)).eval val = (SX.tab T3 (.a 3)).eval val := eq_of_beq (h _ (List.Mem.tail _ (List.Mem.tail _ (List.Mem.head _))))
  have f3 : val 2 ≠ val 3 := ne_of_beq_false (h _ (List.Mem.tail _ (List.Mem.tail _ (List.Mem.tail _ (List.Mem.head _)))))
  have f4 : (SX.tab T2 (.a 2)).eval val = (SX.tab T2 (.a 3)).eval val := eq_of_beq (h _ (List.Mem.tail _ (List.Mem.tail _ (List.Mem.tail _ (List.Mem.tail _ (List.Mem.head _))))))
  have f5 : (SX.tab T1 (.a 2)).eval val = (SX.tab T1 (.a 3)).eval val := eq_of_beq (h _ (List.Mem.tail _ (List.Mem.tail _ (List.Mem.tail _ (List.Mem.tail _ (List.Mem.tail _ (List.Mem.head _)))))))
  have f6 : (SX.tab T0 (.a 2)).eval val = (SX.tab T0 (.a 3)).eval val := eq_of_beq (h _ (List.Mem.tail _ (List.Mem.tail _ (List.Mem.tail _ (List.Mem.tail _ (List.Mem.tail _ (List.Mem.tail _ (List.Mem.head _))))))))
  have f7 : 0 ≤ val 2 := h _ (List.Mem.tail _ (List.Mem.tail _ (List.Mem.tail _ (List.Mem.tail _ (List.Mem.tail _ (List.Mem.tail _ (List.Mem.tail _ (List.Mem.head _))))))))
  have f8 : val 2 ≤ 173 := h _ (List.Mem.tail _ (List.Mem.tail _ (List.Mem.tail _ (List.Mem.tail _ (List.Mem.tail _ (List.Mem.tail _ (List.Mem.tail _ (List.Mem.tail _ (List.Mem.head _)))))))))
  have f9 : 0 ≤ val 3 := h _ (List.Mem.tail _ (List.Mem.tail _ (List.Mem.tail _ (List.Mem.tail _ (List.Mem.tail _ (List.Mem.tail _ (List.Mem.tail _ (List.Mem.tail _ (List.Mem.tail _ (List.Mem.head _))))))))))
  have f10 : val 3 ≤ 173 := h _ (List.Mem.tail _ (List.Mem.tail _ (List.Mem.tail _ (List.Mem.tail _ (List.Mem.tail _ (List.Mem.tail _ (List.Mem.tail _ (List.Mem.tail _ (List.Mem.tail _ (List.Mem.tail _ (List.Mem.head _)))))))))))
  have hn := none_such (val := val) (by omega) (by omega) (by omega) (by omega) (by omega) (by omega) (by omega) (by omega) (by omega)
  omega

theorem l4 {val : Nat → Int} (h : Holds val [.le (.tab T4 (.a 2)) (-1), .at (.eq (.tab T3 (.a 2)) (.tab T3 (.a 3))) true, .at (.eq (.a 2) (.a 3)) false, .at (.eq (.tab T2 (.a 2)) (.tab T2 (.a 3))) true, .at (.eq (.tab T1 (.a 2)) (.tab T1 (.a 3))) true, .at (.eq (.tab T0 (.a 2)) (.tab T0 (.a 3))) true, .ge (.a 2) 0, .le (.a 2) 173, .ge (.a 3) 0, .le (.a 3) 173]) (_ : TabOK Try.prog val sl0 tab) : Q val := by
  exfalso
  have f0 : (SX.tab T4 (.a 2)).eval val ≤ (-1) := h _ (List.Mem.head _)
  have f1 : (SX.tab T3 (.a 2)).eval val = (SX.tab T3 (.a 3)).eval val := eq_of_beq (h _ (List.Mem.tail _ (List.Mem.head _)))
  have f2 : val 2 ≠ val 3 := ne_of_beq_false (h _ (List.Mem.tail _ (List.Mem.tail _ (List.Mem.head _))))
  have f3 : (SX.tab T2 (.a 2)).eval val = (SX.tab T2 (.a 3)).eval val := eq_of_beq (h _ (List.Mem.tail _ (List.Mem.tail _ (List.Mem.tail _ (List.Mem.head _)))))
  have f4 : (SX.tab T1 (.a 2)).eval val = (SX.tab T1 (.a 3)).eval val := eq_of_beq (h _ (List.Mem.tail _ (List.Mem.tail _ (List.Mem.tail _ (List.Mem.tail _ (List.Mem.head _))))))
  have f5 : (SX.tab T0 (.a 2)).eval val = (SX.tab T0 (.a 3)).eval val := eq_of_beq (h _ (List.Mem.tail _ (List.Mem.tail _ (List.Mem.tail _ (List.Mem.tail _ (List.Mem.tail _ (List.Mem.head _)))))))
  have f6 : 0 ≤ val 2 := h _ (List.Mem.tail _ (List.Mem.tail _ (List.Mem.tail _ (List.Mem.tail _ (List.Mem.tail _ (List.Mem.tail _ (List.Mem.head _)))))))
  have f7 : val 2 ≤ 173 := h _ (List.Mem.tail _ (List.Mem.tail _ (List.Mem.tail _ (List.Mem.tail _ (List.Mem.tail _ (List.Mem.tail _ (List.Mem.tail _ (List.Mem.head _))))))))
  have f8 : 0 ≤ val 3 := h _ (List.Mem.tail _ (List.Mem.tail _ (List.Mem.tail _ (List.Mem.tail _ (List.Mem.tail _ (List.Mem.tail _ (List.Mem.tail _ (List.Mem.tail _ (List.Mem.head _)))))))))
  have f9 : val 3 ≤ 173 := h _ (List.Mem.tail _ (List.Mem.tail _ (List.Mem.tail _ (List.Mem.tail _ (List.Mem.tail _ (List.Mem.tail _ (List.Mem.tail _ (List.Mem.tail _ (List.Mem.tail _ (List.Mem.head _))))))))))
  have hn := none_such (val := val) (by omega) (by omega) (by omega) (by omega) (by omega) (by omega) (by omega) (by omega) (by omega)
  omega

theorem l5 {val : Nat → Int} (h : Holds val [.at (.eq (.tab T3 (.a 2)) (.tab T3 (.a 3))) false, .at (.eq (.a 2) (.a 3)) false, .at (.eq (.tab T2 (.a 2)) (.tab T2 (.a 3))) true, .at (.eq (.tab T1 (.a 2)) (.tab T1 (.a 3))) true, .at (.eq (.tab T0 (.a 2)) (.tab T0 (.a 3))) true, .ge (.a 2) 0, .le (.a 2) 173, .ge (.a 3) 0, .le (.a 3) 173]) (ht : TabOK Try.prog val sl0 tab) : Q val := leaf h ht (by kernel_rfl)

theorem l6 {val : Nat → Int} (h : Holds val [.at (.eq (.a 2) (.a 3)) true, .at (.eq (.tab T2 (.a 2)) (.tab T2 (.a 3))) false, .at (.eq (.tab T1 (.a 2)) (.tab T1 (.a 3))) true, .at (.eq (.tab T0 (.a 2)) (.tab T0 (.a 3))) true, .ge (.a 2) 0, .le (.a 2) 173, .ge (.a 3) 0, .le (.a 3) 173]) (ht : TabOK Try.prog val sl0 tab) : Q val := leaf h ht (by kernel_rfl)

theorem l7 {val : Nat → Int} (h : Holds val [.at (.eq (.a 2) (.a 3)) false, .at (.eq (.tab T2 (.a 2)) (.tab T2 (.a 3))) false, .at (.eq (.tab T1 (.a 2)) (.tab T1 (.a 3))) true, .at (.eq (.tab T0 (.a 2)) (.tab T0 (.a 3))) true, .ge (.a 2) 0, .le (.a 2) 173, .ge (.a 3) 0, .le (.a 3) 173]) (ht : TabOK Try.prog val sl0 tab) : Q val := leaf h ht (by kernel_rfl)

theorem l8 {val : Nat → Int} (h : Holds val [.at (.eq (.a 2) (.a 3)) true, .at (.eq (.tab T1 (.a 2)) (.tab T1 (.a 3))) false, .at (.eq (.tab T0 (.a 2)) (.tab T0 (.a 3))) true, .ge (.a 2) 0, .le (.a 2) 173, .ge (.a 3) 0, .le (.a 3) 173]) (ht : TabOK Try.prog val sl0 tab) : Q val := leaf h ht (by kernel_rfl)

theorem l9 {val : Nat → Int} (h : Holds val [.at (.eq (.a 2) (.a 3)) false, .at (.eq (.tab T1 (.a 2)) (.tab T1 (.a 3))) false, .at (.eq (.tab T0 (.a 2)) (.tab T0 (.a 3))) true, .ge (.a 2) 0, .le (.a 2) 173, .ge (.a 3) 0, .le (.a 3) 173]) (ht : TabOK Try.prog val sl0 tab) : Q val := leaf h ht (by kernel_rfl)

theorem l10 {val : Nat → Int} (h : Holds val [.at (.eq (.a 2) (.a 3)) true, .at (.eq (.tab T0 (.a 2)) (.tab T0 (.a 3))) false, .ge (.a 2) 0, .le (.a 2) 173, .ge (.a 3) 0, .le (.a 3) 173]) (ht : TabOK Try.prog val sl0 tab) : Q val := leaf h ht (by kernel_rfl)

theorem l11 {val : Nat → Int} (h : Holds val [.at (.eq (.a 2) (.a 3)) false, .at (.eq (.tab T0 (.a 2)) (.tab T0 (.a 3))) false, .ge (.a 2) 0, .le (.a 2) 173, .ge (.a 3) 0, .le (.a 3) 173]) (ht : TabOK Try.prog val sl0 tab) : Q val := leaf h ht (by kernel_rfl)

theorem apart {val : Nat → Int} (h0 : Holds val [.ge (.a 2) 0, .le (.a 2) 173, .ge (.a 3) 0, .le (.a 3) 173]) (ht : TabOK Try.prog val sl0 tab) : Q val := (by_way (.eq (.tab T0 (.a 2)) (.tab T0 (.a 3))) (.at (.eq (.tab T0 (.a 2)) (.tab T0 (.a 3))) true) (.at (.eq (.tab T0 (.a 2)) (.tab T0 (.a 3))) false) rfl rfl h0 (fun h1 => (by_way (.eq (.tab T1 (.a 2)) (.tab T1 (.a 3))) (.at (.eq (.tab T1 (.a 2)) (.tab T1 (.a 3))) true) (.at (.eq (.tab T1 (.a 2)) (.tab T1 (.a 3))) false) rfl rfl h1 (fun h2 => (by_way (.eq (.tab T2 (.a 2)) (.tab T2 (.a 3))) (.at (.eq (.tab T2 (.a 2)) (.tab T2 (.a 3))) true) (.at (.eq (.tab T2 (.a 2)) (.tab T2 (.a 3))) false) rfl rfl h2 (fun h3 => (by_way (.eq (.a 2) (.a 3)) (.at (.eq (.a 2) (.a 3)) true) (.at (.eq (.a 2) (.a 3)) false) rfl rfl h3 (fun h4 => (l0 h4 ht)) (fun h4 => (by_way (.eq (.tab T3 (.a 2)) (.tab T3 (.a 3))) (.at (.eq (.tab T3 (.a 2)) (.tab T3 (.a 3))) true) (.at (.eq (.tab T3 (.a 2)) (.tab T3 (.a 3))) false) rfl rfl h4 (fun h5 => (by_way (.le (.c 0) (.tab T4 (.a 2))) (.ge (.tab T4 (.a 2)) 0) (.le (.tab T4 (.a 2)) (-1)) rfl rfl h5 (fun h6 => (by_way (.le (.c 0) (.tab T4 (.a 3))) (.ge (.tab T4 (.a 3)) 0) (.le (.tab T4 (.a 3)) (-1)) rfl rfl h6 (fun h7 => (by_way (.eq (.tab T4 (.a 2)) (.tab T4 (.a 3))) (.at (.eq (.tab T4 (.a 2)) (.tab T4 (.a 3))) true) (.at (.eq (.tab T4 (.a 2)) (.tab T4 (.a 3))) false) rfl rfl h7 (fun h8 => (l1 h8 ht)) (fun h8 => (l2 h8 ht)))) (fun h7 => (l3 h7 ht)))) (fun h6 => (l4 h6 ht)))) (fun h5 => (l5 h5 ht)))))) (fun h3 => (by_way (.eq (.a 2) (.a 3)) (.at (.eq (.a 2) (.a 3)) true) (.at (.eq (.a 2) (.a 3)) false) rfl rfl h3 (fun h4 => (l6 h4 ht)) (fun h4 => (l7 h4 ht)))))) (fun h2 => (by_way (.eq (.a 2) (.a 3)) (.at (.eq (.a 2) (.a 3)) true) (.at (.eq (.a 2) (.a 3)) false) rfl rfl h2 (fun h3 => (l8 h3 ht)) (fun h3 => (l9 h3 ht)))))) (fun h1 => (by_way (.eq (.a 2) (.a 3)) (.at (.eq (.a 2) (.a 3)) true) (.at (.eq (.a 2) (.a 3)) false) rfl rfl h1 (fun h2 => (l10 h2 ht)) (fun h2 => (l11 h2 ht)))))

theorem walk (a b : Int) (w : World) : Calls Try.prog 5 #[.int .i64 a, .int .i64 b] w fun e w' => e = .returned (.bool true) ∧ RowKit.Below w.heap.size w w' := by
  have ht : TabOK Try.prog (fun k => [a, b, a % 174, b % 174].getD k 0) sl0 tab := by
    intro x hx
    simp only [tab, List.mem_cons, List.not_mem_nil, or_false] at hx
    rcases hx with rfl | rfl
    · intro w
      have := (pickOK a 174 ⟨by omega, by omega⟩ w).mono (fun e w' (h : _ ∧ _) => (⟨h.1, h.2 ▸ RowKit.Below.refl _ _⟩ : e = .returned (.int .i64 (a % 174)) ∧ RowKit.Below w.heap.size w w'))
      simp only [concs, conc, SX.eval]
      exact this
    · intro w
      have := (pickOK b 174 ⟨by omega, by omega⟩ w).mono (fun e w' (h : _ ∧ _) => (⟨h.1, h.2 ▸ RowKit.Below.refl _ _⟩ : e = .returned (.int .i64 (b % 174)) ∧ RowKit.Below w.heap.size w w'))
      simp only [concs, conc, SX.eval]
      exact this
  have h0 : Holds (fun k => [a, b, a % 174, b % 174].getD k 0) [.ge (.a 2) 0, .le (.a 2) 173, .ge (.a 3) 0, .le (.a 3) 173] := by
    intro f hf
    simp only [List.mem_cons, List.not_mem_nil, or_false] at hf
    rcases hf with rfl | rfl | rfl | rfl
    · show (0 : Int) ≤ a % 174; omega
    · show a % 174 ≤ 173; omega
    · show (0 : Int) ≤ b % 174; omega
    · show b % 174 ≤ 173; omega
  exact apart h0 ht w

end Go.Proofs.Ytnjfpgddppnehaa.Apart
