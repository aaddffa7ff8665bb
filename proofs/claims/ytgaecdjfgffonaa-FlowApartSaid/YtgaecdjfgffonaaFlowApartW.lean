/-
  'FlowApart' says true of any two numbers: the ways through it, each a run; the ways that cannot be, by a look at all pairs of rows.
-/
import Derived.Test.YtgaecdjfgffonaaTab
import Derived.Test.YtgaecdjfgffonaaPick
import Derived.Test.YtgaecdjfgffonaaSimB
import Derived.KernelRfl
namespace Go.Proofs.Ytgaecdjfgffonaa.Apart
open Go.Sim Go.Proofs.Ytgaecdjfgffonaa.Tab
set_option maxRecDepth 100000

def T0 : List Int := [1, 0, 0, 0, 1, 0, 1, 0, 1, 0, 0, 1, 0, 0, 0, 0, 0, 0, 0, 0, 0, 0, 0, 0, 0, 0, 0, 0, 0, 0, 0, 0, 0, 0, 0, 0, 0, 0, 0, 0, 0, 0, 0, 0, 0, 0, 0, 0, 0, 0, 0, 0, 0, 0, 0, 0, 0, 0, 0, 0, 0, 0, 0, 0, 0, 0, 0, 0, 0, 0, 0, 0, 0, 0, 0, 0, 0, 0, 0, 0, 0, 0, 1, 0, 0, 1, 0, 0, 1, 0, 0, 1, 0, 0, 1, 0, 0, 1, 0, 0, 1, 0, 0, 1, 0, 0, 1, 0, 0, 1, 0, 0, 1, 0, 0, 1, 0, 0, 1, 0, 0, 1, 0, 0, 1, 0, 0, 1, 0, 0]

def T1 : List Int := [0, 0, 0, 0, 0, 0, 0, 0, 0, 0, 0, 0, 0, 0, 0, 0, 0, 0, 0, 0, 0, 0, 0, 0, 0, 0, 0, 0, 0, 0, 0, 0, 0, 0, 0, 0, 0, 0, 0, 0, 0, 0, 0, 0, 0, 0, 0, 0, 0, 0, 0, 0, 0, 0, 0, 0, 0, 0, 0, 0, 0, 0, 0, 0, 0, 0, 0, 0, 0, 0, 0, 0, 0, 0, 0, 0, 0, 0, 0, 0, 0, 0, 0, 0, 1, 0, 0, 1, 0, 0, 1, 0, 0, 1, 0, 0, 1, 0, 0, 1, 0, 0, 1, 0, 0, 1, 0, 0, 1, 0, 0, 1, 0, 0, 1, 0, 0, 1, 0, 0, 1, 0, 0, 1, 0, 0, 1, 0, 0, 1]

def T2 : List Int := [0, 0, 0, 0, 0, 0, 0, 0, 0, 0, 0, 1, 1, 0, 0, 0, 0, 0, 0, 0, 0, 0, 1, 1, 0, 0, 0, 0, 0, 0, 0, 0, 1, 1, 0, 1, 0, 1, 0, 1, 0, 1, 0, 1, 0, 1, 0, 1, 0, 1, 0, 1, 0, 1, 0, 1, 0, 1, 0, 1, 0, 1, 0, 1, 0, 1, 1, 1, 1, 1, 1, 1, 1, 1, 1, 1, 1, 1, 1, 1, 1, 1, 1, 1, 1, 1, 1, 1, 1, 1, 1, 1, 1, 1, 1, 1, 1, 1, 1, 1, 1, 1, 1, 1, 1, 1, 1, 1, 1, 1, 1, 1, 1, 1, 1, 1, 1, 1, 1, 1, 1, 1, 1, 1, 1, 1, 1, 1, 1, 1]

def T3 : List Int := [80, 80, 106, 104, 255, 255, 88, 88, 143, 143, 144, 31, 31, 195, 194, 201, 232, 255, 235, 233, 255, 204, 5, 11, 244, 248, 249, 245, 252, 253, 159, 158, 162, 49, 112, 128, 113, 129, 114, 130, 115, 131, 116, 132, 117, 133, 118, 134, 119, 135, 120, 136, 121, 137, 122, 138, 123, 139, 124, 140, 125, 141, 126, 142, 127, 143, 144, 145, 146, 147, 148, 149, 150, 151, 152, 153, 154, 155, 156, 157, 158, 159, 64, 64, 64, 65, 65, 65, 66, 66, 66, 67, 67, 67, 68, 68, 68, 69, 69, 69, 70, 70, 70, 71, 71, 71, 72, 72, 72, 73, 73, 73, 74, 74, 74, 75, 75, 75, 76, 76, 76, 77, 77, 77, 78, 78, 78, 79, 79, 79]

def T4 : List Int := [(-1), (-1), (-1), (-1), 6, 6, (-1), (-1), 0, 0, (-1), 0, 0, (-1), (-1), (-1), (-1), 2, (-1), (-1), 4, (-1), (-1), (-1), (-1), (-1), (-1), (-1), (-1), (-1), (-1), (-1), (-1), (-1), (-1), (-1), (-1), (-1), (-1), (-1), (-1), (-1), (-1), (-1), (-1), (-1), (-1), (-1), (-1), (-1), (-1), (-1), (-1), (-1), (-1), (-1), (-1), (-1), (-1), (-1), (-1), (-1), (-1), (-1), (-1), (-1), 0, 0, 0, 0, 0, 0, 0, 0, 0, 0, 0, 0, 0, 0, 0, 0, (-1), (-1), (-1), (-1), (-1), (-1), (-1), (-1), (-1), (-1), (-1), (-1), (-1), (-1), (-1), (-1), (-1), (-1), (-1), (-1), (-1), (-1), (-1), (-1), (-1), (-1), (-1), (-1), (-1), (-1), (-1), (-1), (-1), (-1), (-1), (-1), (-1), (-1), (-1), (-1), (-1), (-1), (-1), (-1), (-1), (-1), (-1), (-1)]

abbrev sl0 : Nat → Option Addr × Nat := fun _ => (none, 0)

abbrev tab : List (FuncId × List AV × AV) := [(15, [.sx .i64 (.a 0), .v (.int .i64 (.ofNat 130))], .sx .i64 (.a 2)), (15, [.sx .i64 (.a 1), .v (.int .i64 (.ofNat 130))], .sx .i64 (.a 3))]

abbrev args : List AV := [.sx .i64 (.a 0), .sx .i64 (.a 1)]

def Q (val : Nat → Int) : Prop := Ret Try.prog 5 [.int .i64 (val 0), .int .i64 (val 1)] (.bool true)

theorem leaf {val : Nat → Int} {F : List Fact} (h : Holds val F) (ht : TabOK Try.prog val sl0 tab) (hg : saysTrue (@run (symsOf val F h sl0) Try.prog (orElse orc (tabO tab)) 1000 5 args) = true) : Q val := by
  have := leafTab (orc := orc) h orcOK mix (by kernel_rfl) (by kernel_rfl) (by kernel_rfl) ht hg
  simp only [concs, conc, SX.eval] at this
  exact this

/-! All pairs of rows. -/

abbrev Row := Nat × Nat × Nat

def R (x y : Row) : Bool := !(Nat.beq x.1 y.1) || (Nat.ble 1 x.2.2 && Nat.ble 1 y.2.2 && !Nat.beq x.2.2 y.2.2) || (Nat.ble 1 x.2.1 && Nat.ble 1 y.2.1 && !Nat.beq x.2.1 y.2.1)

def apartL : List Row → Bool
  | [] => true
  | x :: r => r.all (fun y => R x y && R y x) && apartL r

theorem apartL_pw : ∀ (l : List Row), apartL l = true → l.Pairwise (fun x y => R x y = true ∧ R y x = true)
  | [], _ => List.Pairwise.nil
  | x :: r, h => by
    simp only [apartL, Bool.and_eq_true, List.all_eq_true] at h
    exact List.Pairwise.cons (fun y hy => h.1 y hy) (apartL_pw r h.2)

theorem apart_fn (f : Nat → Row) (n : Nat) (lit : List Row) (he : (List.range n).map f = lit) (h : apartL lit = true) (i k : Nat) (hi : i < n) (hk : k < n) (hne : i ≠ k) : R (f i) (f k) = true := by
  subst he
  have hp := List.pairwise_iff_getElem.1 (apartL_pw _ h)
  rcases Nat.lt_or_gt_of_ne hne with hlt | hlt
  · have := (hp i k (by simpa using hi) (by simpa using hk) hlt).1
    simpa using this
  · have := (hp k i (by simpa using hk) (by simpa using hi) hlt).2
    simpa using this

def rowOf (i : Nat) : Row := (((((0) * 1000 + (T0.getD i (T0.headD 0) + 1).toNat) * 1000 + (T1.getD i (T1.headD 0) + 1).toNat) * 1000 + (T2.getD i (T2.headD 0) + 1).toNat) * 1000 + (T3.getD i (T3.headD 0) + 1).toNat, (T4.getD i (T4.headD 0) + 1).toNat, 0)

def lit : List Row := [(2001001081, 0, 0), (1001001081, 0, 0), (1001001107, 0, 0), (1001001105, 0, 0), (2001001256, 7, 0), (1001001256, 7, 0), (2001001089, 0, 0), (1001001089, 0, 0), (2001001144, 1, 0), (1001001144, 1, 0), (1001001145, 0, 0), (2001002032, 1, 0), (1001002032, 1, 0), (1001001196, 0, 0), (1001001195, 0, 0), (1001001202, 0, 0), (1001001233, 0, 0), (1001001256, 3, 0), (1001001236, 0, 0), (1001001234, 0, 0), (1001001256, 5, 0), (1001001205, 0, 0), (1001002006, 0, 0), (1001002012, 0, 0), (1001001245, 0, 0), (1001001249, 0, 0), (1001001250, 0, 0), (1001001246, 0, 0), (1001001253, 0, 0), (1001001254, 0, 0), (1001001160, 0, 0), (1001001159, 0, 0), (1001002163, 0, 0), (1001002050, 0, 0), (1001001113, 0, 0), (1001002129, 0, 0), (1001001114, 0, 0), (1001002130, 0, 0), (1001001115, 0, 0), (1001002131, 0, 0), (1001001116, 0, 0), (1001002132, 0, 0), (1001001117, 0, 0), (1001002133, 0, 0), (1001001118, 0, 0), (1001002134, 0, 0), (1001001119, 0, 0), (1001002135, 0, 0), (1001001120, 0, 0), (1001002136, 0, 0), (1001001121, 0, 0), (1001002137, 0, 0), (1001001122, 0, 0), (1001002138, 0, 0), (1001001123, 0, 0), (1001002139, 0, 0), (1001001124, 0, 0), (1001002140, 0, 0), (1001001125, 0, 0), (1001002141, 0, 0), (1001001126, 0, 0), (1001002142, 0, 0), (1001001127, 0, 0), (1001002143, 0, 0), (1001001128, 0, 0), (1001002144, 0, 0), (1001002145, 1, 0), (1001002146, 1, 0), (1001002147, 1, 0), (1001002148, 1, 0), (1001002149, 1, 0), (1001002150, 1, 0), (1001002151, 1, 0), (1001002152, 1, 0), (1001002153, 1, 0), (1001002154, 1, 0), (1001002155, 1, 0), (1001002156, 1, 0), (1001002157, 1, 0), (1001002158, 1, 0), (1001002159, 1, 0), (1001002160, 1, 0), (2001002065, 0, 0), (1001002065, 0, 0), (1002002065, 0, 0), (2001002066, 0, 0), (1001002066, 0, 0), (1002002066, 0, 0), (2001002067, 0, 0), (1001002067, 0, 0), (1002002067, 0, 0), (2001002068, 0, 0), (1001002068, 0, 0), (1002002068, 0, 0), (2001002069, 0, 0), (1001002069, 0, 0), (1002002069, 0, 0), (2001002070, 0, 0), (1001002070, 0, 0), (1002002070, 0, 0), (2001002071, 0, 0), (1001002071, 0, 0), (1002002071, 0, 0), (2001002072, 0, 0), (1001002072, 0, 0), (1002002072, 0, 0), (2001002073, 0, 0), (1001002073, 0, 0), (1002002073, 0, 0), (2001002074, 0, 0), (1001002074, 0, 0), (1002002074, 0, 0), (2001002075, 0, 0), (1001002075, 0, 0), (1002002075, 0, 0), (2001002076, 0, 0), (1001002076, 0, 0), (1002002076, 0, 0), (2001002077, 0, 0), (1001002077, 0, 0), (1002002077, 0, 0), (2001002078, 0, 0), (1001002078, 0, 0), (1002002078, 0, 0), (2001002079, 0, 0), (1001002079, 0, 0), (1002002079, 0, 0), (2001002080, 0, 0), (1001002080, 0, 0), (1002002080, 0, 0)]

theorem litEq : (List.range 130).map rowOf = lit := by kernel_rfl

theorem litApart : apartL lit = true := by kernel_rfl

theorem none_such {val : Nat → Int} (r0 : 0 ≤ val 2) (r1 : val 2 ≤ 129) (r2 : 0 ≤ val 3) (r3 : val 3 ≤ 129) (hne : val 2 ≠ val 3) (c0 : (SX.tab T0 (.a 2)).eval val = (SX.tab T0 (.a 3)).eval val) (c1 : (SX.tab T1 (.a 2)).eval val = (SX.tab T1 (.a 3)).eval val) (c2 : (SX.tab T2 (.a 2)).eval val = (SX.tab T2 (.a 3)).eval val) (c3 : (SX.tab T3 (.a 2)).eval val = (SX.tab T3 (.a 3)).eval val) : 0 ≤ (SX.tab T4 (.a 2)).eval val ∧ 0 ≤ (SX.tab T4 (.a 3)).eval val ∧ (SX.tab T4 (.a 2)).eval val ≠ (SX.tab T4 (.a 3)).eval val := by
  simp only [SX.eval] at c0 c1 c2 c3 ⊢
  have h := apart_fn rowOf 130 lit litEq litApart (val 2).toNat (val 3).toNat (by omega) (by omega) (by omega)
  have e : (rowOf (val 2).toNat).1 = (rowOf (val 3).toNat).1 := by
    simp only [rowOf]
    rw [c0, c1, c2, c3]
  simp only [R, Bool.or_eq_true, Bool.and_eq_true, Bool.not_eq_true'] at h
  rcases h with (h | h) | h
  · exact absurd e (Nat.ne_of_beq_eq_false h)
  · have h1 := Nat.le_of_ble_eq_true h.1.1
    have h2 := Nat.le_of_ble_eq_true h.1.2
    have h3 := Nat.ne_of_beq_eq_false h.2
    simp only [rowOf] at h1 h2 h3
    omega
  · have h1 := Nat.le_of_ble_eq_true h.1.1
    have h2 := Nat.le_of_ble_eq_true h.1.2
    have h3 := Nat.ne_of_beq_eq_false h.2
    simp only [rowOf] at h1 h2 h3
    omega

theorem l0 {val : Nat → Int} (h : Holds val [.at (.eq (.a 2) (.a 3)) true, .at (.eq (.tab T2 (.a 2)) (.tab T2 (.a 3))) true, .at (.eq (.tab T1 (.a 2)) (.tab T1 (.a 3))) true, .at (.eq (.tab T0 (.a 2)) (.tab T0 (.a 3))) true, .ge (.a 2) 0, .le (.a 2) 129, .ge (.a 3) 0, .le (.a 3) 129]) (ht : TabOK Try.prog val sl0 tab) : Q val := leaf h ht (by kernel_rfl)

theorem l1 {val : Nat → Int} (h : Holds val [.at (.eq (.tab T4 (.a 2)) (.tab T4 (.a 3))) true, .ge (.tab T4 (.a 3)) 0, .ge (.tab T4 (.a 2)) 0, .at (.eq (.tab T3 (.a 2)) (.tab T3 (.a 3))) true, .at (.eq (.a 2) (.a 3)) false, .at (.eq (.tab T2 (.a 2)) (.tab T2 (.a 3))) true, .at (.eq (.tab T1 (.a 2)) (.tab T1 (.a 3))) true, .at (.eq (.tab T0 (.a 2)) (.tab T0 (.a 3))) true, .ge (.a 2) 0, .le (.a 2) 129, .ge (.a 3) 0, .le (.a 3) 129]) (_ : TabOK Try.prog val sl0 tab) : Q val := by
  exfalso
  have f0 : (SX.tab T4 (.a 2)).eval val = (SX.tab T4 (.a 3)).eval val := eq_of_beq (h _ (List.Mem.head _))
  have f1 : 0 ≤ (SX.tab T4 (.a 3)).eval val := h _ (List.Mem.tail _ (List.Mem.head _))
  have f2 : 0 ≤ (SX.tab T4 (.a 2)).eval val := h _ (List.Mem.tail _ (List.Mem.tail _ (List.Mem.head _)))
  have f3 : (SX.tab T3 (.a 2)).eval val = (SX.tab T3 (.a 3)).eval val := eq_of_beq (h _ (List.Mem.tail _ (List.Mem.tail _ (List.Mem.tail _ (List.Mem.head _)))))
  have f4 : val 2 ≠ val 3 := ne_of_beq_false (h _ (List.Mem.tail _ (List.Mem.tail _ (List.Mem.tail _ (List.Mem.tail _ (List.Mem.head _))))))
  have f5 : (SX.tab T2 (.a 2)).eval val = (SX.tab T2 (.a 3)).eval val := eq_of_beq (h _ (List.Mem.tail _ (List.Mem.tail _ (List.Mem.tail _ (List.Mem.tail _ (List.Mem.tail _ (List.Mem.head _)))))))
  have f6 : (SX.tab T1 (.a 2)).eval val = (SX.tab T1 (.a 3)).eval val := eq_of_beq (h _ (List.Mem.tail _ (List.Mem.tail _ (List.Mem.tail _ (List.Mem.tail _ (List.Mem.tail _ (List.Mem.tail _ (List.Mem.head _))))))))
  have f7 : (SX.tab T0 (.a 2)).eval val = (SX.tab T0 (.a 3)).eval val := eq_of_beq (h _ (List.Mem.tail _ (List.Mem.tail _ (List.Mem.tail _ (List.Mem.tail _ (List.Mem.tail _ (List.Mem.tail _ (List.Mem.tail _ (List.Mem.head _)))))))))
  have f8 : 0 ≤ val 2 := h _ (List.Mem.tail _ (List.Mem.tail _ (List.Mem.tail _ (List.Mem.tail _ (List.Mem.tail _ (List.Mem.tail _ (List.Mem.tail _ (List.Mem.tail _ (List.Mem.head _)))))))))
  have f9 : val 2 ≤ 129 := h _ (List.Mem.tail _ (List.Mem.tail _ (List.Mem.tail _ (List.Mem.tail _ (List.Mem.tail _ (List.Mem.tail _ (List.Mem.tail _ (List.Mem.tail _ (List.Mem.tail _ (List.Mem.head _))))))))))
  have f10 : 0 ≤ val 3 := h _ (List.Mem.tail _ (List.Mem.tail _ (List.Mem.tail _ (List.Mem.tail _ (List.Mem.tail _ (List.Mem.tail _ (List.Mem.tail _ (List.Mem.tail _ (List.Mem.tail _ (List.Mem.tail _ (List.Mem.head _)))))))))))
  have f11 : val 3 ≤ 129 := h _ (List.Mem.tail _ (List.Mem.tail _ (List.Mem.tail _ (List.Mem.tail _ (List.Mem.tail _ (List.Mem.tail _ (List.Mem.tail _ (List.Mem.tail _ (List.Mem.tail _ (List.Mem.tail _ (List.Mem.tail _ (List.Mem.head _))))))))))))
  have hn := none_such (val := val) (by omega) (by omega) (by omega) (by omega) (by omega) (by omega) (by omega) (by omega) (by omega)
  omega

theorem l2 {val : Nat → Int} (h : Holds val [.at (.eq (.tab T4 (.a 2)) (.tab T4 (.a 3))) false, .ge (.tab T4 (.a 3)) 0, .ge (.tab T4 (.a 2)) 0, .at (.eq (.tab T3 (.a 2)) (.tab T3 (.a 3))) true, .at (.eq (.a 2) (.a 3)) false, .at (.eq (.tab T2 (.a 2)) (.tab T2 (.a 3))) true, .at (.eq (.tab T1 (.a 2)) (.tab T1 (.a 3))) true, .at (.eq (.tab T0 (.a 2)) (.tab T0 (.a 3))) true, .ge (.a 2) 0, .le (.a 2) 129, .ge (.a 3) 0, .le (.a 3) 129]) (ht : TabOK Try.prog val sl0 tab) : Q val := leaf h ht (by kernel_rfl)

theorem l3 {val : Nat → Int} (h : Holds val [.le (.tab T4 (.a 3)) (-1), .ge (.tab T4 (.a 2)) 0, .at (.eq (.tab T3 (.a 2)) (.tab T3 (.a 3))) true, .at (.eq (.a 2) (.a 3)) false, .at (.eq (.tab T2 (.a 2)) (.tab T2 (.a 3))) true, .at (.eq (.tab T1 (.a 2)) (.tab T1 (.a 3))) true, .at (.eq (.tab T0 (.a 2)) (.tab T0 (.a 3))) true, .ge (.a 2) 0, .le (.a 2) 129, .ge (.a 3) 0, .le (.a 3) 129]) (_ : TabOK Try.prog val sl0 tab) : Q val := by
  exfalso
  have f0 : (SX.tab T4 (.a 3)).eval val ≤ (-1) := h _ (List.Mem.head _)
  have f1 : 0 ≤ (SX.tab T4 (.a 2)).eval val := h _ (List.Mem.tail _ (List.Mem.head _))
  have f2 : (SX.tab T3 (.a 2)).eval val = (SX.tab T3 (.a 3)).eval val := eq_of_beq (h _ (List.Mem.tail _ (List.Mem.tail _ (List.Mem.head _))))
  have f3 : val 2 ≠ val 3 := ne_of_beq_false (h _ (List.Mem.tail _ (List.Mem.tail _ (List.Mem.tail _ (List.Mem.head _)))))
  have f4 : (SX.tab T2 (.a 2)).eval val = (SX.tab T2 (.a 3)).eval val := eq_of_beq (h _ (List.Mem.tail _ (List.Mem.tail _ (List.Mem.tail _ (List.Mem.tail _ (List.Mem.head _))))))
  have f5 : (SX.tab T1 (.a 2)).eval val = (SX.tab T1 (.a 3)).eval val := eq_of_beq (h _ (List.Mem.tail _ (List.Mem.tail _ (List.Mem.tail _ (List.Mem.tail _ (List.Mem.tail _ (List.Mem.head _)))))))
  have f6 : (SX.tab T0 (.a 2)).eval val = (SX.tab T0 (.a 3)).eval val := eq_of_beq (h _ (List.Mem.tail _ (List.Mem.tail _ (List.Mem.tail _ (List.Mem.tail _ (List.Mem.tail _ (List.Mem.tail _ (List.Mem.head _))))))))
  have f7 : 0 ≤ val 2 := h _ (List.Mem.tail _ (List.Mem.tail _ (List.Mem.tail _ (List.Mem.tail _ (List.Mem.tail _ (List.Mem.tail _ (List.Mem.tail _ (List.Mem.head _))))))))
  have f8 : val 2 ≤ 129 := h _ (List.Mem.tail _ (List.Mem.tail _ (List.Mem.tail _ (List.Mem.tail _ (List.Mem.tail _ (List.Mem.tail _ (List.Mem.tail _ (List.Mem.tail _ (List.Mem.head _)))))))))
  have f9 : 0 ≤ val 3 := h _ (List.Mem.tail _ (List.Mem.tail _ (List.Mem.tail _ (List.Mem.tail _ (List.Mem.tail _ (List.Mem.tail _ (List.Mem.tail _ (List.Mem.tail _ (List.Mem.tail _ (List.Mem.head _))))))))))
  have f10 : val 3 ≤ 129 := h _ (List.Mem.tail _ (List.Mem.tail _ (List.Mem.tail _ (List.Mem.tail _ (List.Mem.tail _ (List.Mem.tail _ (List.Mem.tail _ (List.Mem.tail _ (List.Mem.tail _ (List.Mem.tail _ (List.Mem.head _)))))))))))
  have hn := none_such (val := val) (by omega) (by omega) (by omega) (by omega) (by omega) (by omega) (by omega) (by omega) (by omega)
  omega

theorem l4 {val : Nat → Int} (h : Holds val [.le (.tab T4 (.a 2)) (-1), .at (.eq (.tab T3 (.a 2)) (.tab T3 (.a 3))) true, .at (.eq (.a 2) (.a 3)) false, .at (.eq (.tab T2 (.a 2)) (.tab T2 (.a 3))) true, .at (.eq (.tab T1 (.a 2)) (.tab T1 (.a 3))) true, .at (.eq (.tab T0 (.a 2)) (.tab T0 (.a 3))) true, .ge (.a 2) 0, .le (.a 2) 129, .ge (.a 3) 0, .le (.a 3) 129]) (_ : TabOK Try.prog val sl0 tab) : Q val := by
  exfalso
  have f0 : (SX.tab T4 (.a 2)).eval val ≤ (-1) := h _ (List.Mem.head _)
  have f1 : (SX.tab T3 (.a 2)).eval val = (SX.tab T3 (.a 3)).eval val := eq_of_beq (h _ (List.Mem.tail _ (List.Mem.head _)))
  have f2 : val 2 ≠ val 3 := ne_of_beq_false (h _ (List.Mem.tail _ (List.Mem.tail _ (List.Mem.head _))))
  have f3 : (SX.tab T2 (.a 2)).eval val = (SX.tab T2 (.a 3)).eval val := eq_of_beq (h _ (List.Mem.tail _ (List.Mem.tail _ (List.Mem.tail _ (List.Mem.head _)))))
  have f4 : (SX.tab T1 (.a 2)).eval val = (SX.tab T1 (.a 3)).eval val := eq_of_beq (h _ (List.Mem.tail _ (List.Mem.tail _ (List.Mem.tail _ (List.Mem.tail _ (List.Mem.head _))))))
  have f5 : (SX.tab T0 (.a 2)).eval val = (SX.tab T0 (.a 3)).eval val := eq_of_beq (h _ (List.Mem.tail _ (List.Mem.tail _ (List.Mem.tail _ (List.Mem.tail _ (List.Mem.tail _ (List.Mem.head _)))))))
  have f6 : 0 ≤ val 2 := h _ (List.Mem.tail _ (List.Mem.tail _ (List.Mem.tail _ (List.Mem.tail _ (List.Mem.tail _ (List.Mem.tail _ (List.Mem.head _)))))))
  have f7 : val 2 ≤ 129 := h _ (List.Mem.tail _ (List.Mem.tail _ (List.Mem.tail _ (List.Mem.tail _ (List.Mem.tail _ (List.Mem.tail _ (List.Mem.tail _ (List.Mem.head _))))))))
  have f8 : 0 ≤ val 3 := h _ (List.Mem.tail _ (List.Mem.tail _ (List.Mem.tail _ (List.Mem.tail _ (List.Mem.tail _ (List.Mem.tail _ (List.Mem.tail _ (List.Mem.tail _ (List.Mem.head _)))))))))
  have f9 : val 3 ≤ 129 := h _ (List.Mem.tail _ (List.Mem.tail _ (List.Mem.tail _ (List.Mem.tail _ (List.Mem.tail _ (List.Mem.tail _ (List.Mem.tail _ (List.Mem.tail _ (List.Mem.tail _ (List.Mem.head _))))))))))
  have hn := none_such (val := val) (by omega) (by omega) (by omega) (by omega) (by omega) (by omega) (by omega) (by omega) (by omega)
  omega

theorem l5 {val : Nat → Int} (h : Holds val [.at (.eq (.tab T3 (.a 2)) (.tab T3 (.a 3))) false, .at (.eq (.a 2) (.a 3)) false, .at (.eq (.tab T2 (.a 2)) (.tab T2 (.a 3))) true, .at (.eq (.tab T1 (.a 2)) (.tab T1 (.a 3))) true, .at (.eq (.tab T0 (.a 2)) (.tab T0 (.a 3))) true, .ge (.a 2) 0, .le (.a 2) 129, .ge (.a 3) 0, .le (.a 3) 129]) (ht : TabOK Try.prog val sl0 tab) : Q val := leaf h ht (by kernel_rfl)

theorem l6 {val : Nat → Int} (h : Holds val [.at (.eq (.a 2) (.a 3)) true, .at (.eq (.tab T2 (.a 2)) (.tab T2 (.a 3))) false, .at (.eq (.tab T1 (.a 2)) (.tab T1 (.a 3))) true, .at (.eq (.tab T0 (.a 2)) (.tab T0 (.a 3))) true, .ge (.a 2) 0, .le (.a 2) 129, .ge (.a 3) 0, .le (.a 3) 129]) (ht : TabOK Try.prog val sl0 tab) : Q val := leaf h ht (by kernel_rfl)

theorem l7 {val : Nat → Int} (h : Holds val [.at (.eq (.a 2) (.a 3)) false, .at (.eq (.tab T2 (.a 2)) (.tab T2 (.a 3))) false, .at (.eq (.tab T1 (.a 2)) (.tab T1 (.a 3))) true, .at (.eq (.tab T0 (.a 2)) (.tab T0 (.a 3))) true, .ge (.a 2) 0, .le (.a 2) 129, .ge (.a 3) 0, .le (.a 3) 129]) (ht : TabOK Try.prog val sl0 tab) : Q val := leaf h ht (by kernel_rfl)

theorem l8 {val : Nat → Int} (h : Holds val [.at (.eq (.a 2) (.a 3)) true, .at (.eq (.tab T1 (.a 2)) (.tab T1 (.a 3))) false, .at (.eq (.tab T0 (.a 2)) (.tab T0 (.a 3))) true, .ge (.a 2) 0, .le (.a 2) 129, .ge (.a 3) 0, .le (.a 3) 129]) (ht : TabOK Try.prog val sl0 tab) : Q val := leaf h ht (by kernel_rfl)

theorem l9 {val : Nat → Int} (h : Holds val [.at (.eq (.a 2) (.a 3)) false, .at (.eq (.tab T1 (.a 2)) (.tab T1 (.a 3))) false, .at (.eq (.tab T0 (.a 2)) (.tab T0 (.a 3))) true, .ge (.a 2) 0, .le (.a 2) 129, .ge (.a 3) 0, .le (.a 3) 129]) (ht : TabOK Try.prog val sl0 tab) : Q val := leaf h ht (by kernel_rfl)

theorem l10 {val : Nat → Int} (h : Holds val [.at (.eq (.a 2) (.a 3)) true, .at (.eq (.tab T0 (.a 2)) (.tab T0 (.a 3))) false, .ge (.a 2) 0, .le (.a 2) 129, .ge (.a 3) 0, .le (.a 3) 129]) (ht : TabOK Try.prog val sl0 tab) : Q val := leaf h ht (by kernel_rfl)

theorem l11 {val : Nat → Int} (h : Holds val [.at (.eq (.a 2) (.a 3)) false, .at (.eq (.tab T0 (.a 2)) (.tab T0 (.a 3))) false, .ge (.a 2) 0, .le (.a 2) 129, .ge (.a 3) 0, .le (.a 3) 129]) (ht : TabOK Try.prog val sl0 tab) : Q val := leaf h ht (by kernel_rfl)

theorem apart {val : Nat → Int} (h0 : Holds val [.ge (.a 2) 0, .le (.a 2) 129, .ge (.a 3) 0, .le (.a 3) 129]) (ht : TabOK Try.prog val sl0 tab) : Q val := (by_way (.eq (.tab T0 (.a 2)) (.tab T0 (.a 3))) (.at (.eq (.tab T0 (.a 2)) (.tab T0 (.a 3))) true) (.at (.eq (.tab T0 (.a 2)) (.tab T0 (.a 3))) false) rfl rfl h0 (fun h1 => (by_way (.eq (.tab T1 (.a 2)) (.tab T1 (.a 3))) (.at (.eq (.tab T1 (.a 2)) (.tab T1 (.a 3))) true) (.at (.eq (.tab T1 (.a 2)) (.tab T1 (.a 3))) false) rfl rfl h1 (fun h2 => (by_way (.eq (.tab T2 (.a 2)) (.tab T2 (.a 3))) (.at (.eq (.tab T2 (.a 2)) (.tab T2 (.a 3))) true) (.at (.eq (.tab T2 (.a 2)) (.tab T2 (.a 3))) false) rfl rfl h2 (fun h3 => (by_way (.eq (.a 2) (.a 3)) (.at (.eq (.a 2) (.a 3)) true) (.at (.eq (.a 2) (.a 3)) false) rfl rfl h3 (fun h4 => (l0 h4 ht)) (fun h4 => (by_way (.eq (.tab T3 (.a 2)) (.tab T3 (.a 3))) (.at (.eq (.tab T3 (.a 2)) (.tab T3 (.a 3))) true) (.at (.eq (.tab T3 (.a 2)) (.tab T3 (.a 3))) false) rfl rfl h4 (fun h5 => (by_way (.le (.c 0) (.tab T4 (.a 2))) (.ge (.tab T4 (.a 2)) 0) (.le (.tab T4 (.a 2)) (-1)) rfl rfl h5 (fun h6 => (by_way (.le (.c 0) (.tab T4 (.a 3))) (.ge (.tab T4 (.a 3)) 0) (.le (.tab T4 (.a 3)) (-1)) rfl rfl h6 (fun h7 => (by_way (.eq (.tab T4 (.a 2)) (.tab T4 (.a 3))) (.at (.eq (.tab T4 (.a 2)) (.tab T4 (.a 3))) true) (.at (.eq (.tab T4 (.a 2)) (.tab T4 (.a 3))) false) rfl rfl h7 (fun h8 => (l1 h8 ht)) (fun h8 => (l2 h8 ht)))) (fun h7 => (l3 h7 ht)))) (fun h6 => (l4 h6 ht)))) (fun h5 => (l5 h5 ht)))))) (fun h3 => (by_way (.eq (.a 2) (.a 3)) (.at (.eq (.a 2) (.a 3)) true) (.at (.eq (.a 2) (.a 3)) false) rfl rfl h3 (fun h4 => (l6 h4 ht)) (fun h4 => (l7 h4 ht)))))) (fun h2 => (by_way (.eq (.a 2) (.a 3)) (.at (.eq (.a 2) (.a 3)) true) (.at (.eq (.a 2) (.a 3)) false) rfl rfl h2 (fun h3 => (l8 h3 ht)) (fun h3 => (l9 h3 ht)))))) (fun h1 => (by_way (.eq (.a 2) (.a 3)) (.at (.eq (.a 2) (.a 3)) true) (.at (.eq (.a 2) (.a 3)) false) rfl rfl h1 (fun h2 => (l10 h2 ht)) (fun h2 => (l11 h2 ht)))))

theorem walk (a b : Int) (w : World) : Calls Try.prog 5 #[.int .i64 a, .int .i64 b] w fun e w' => e = .returned (.bool true) ∧ RowKit.Below w.heap.size w w' := by
  have ht : TabOK Try.prog (fun k => [a, b, a % 130, b % 130].getD k 0) sl0 tab := by
    intro x hx
    simp only [tab, List.mem_cons, List.not_mem_nil, or_false] at hx
    rcases hx with rfl | rfl
    · intro w
      have := (pickOK a 130 ⟨by omega, by omega⟩ w).mono (fun e w' (h : _ ∧ _) => (⟨h.1, h.2 ▸ RowKit.Below.refl _ _⟩ : e = .returned (.int .i64 (a % 130)) ∧ RowKit.Below w.heap.size w w'))
      simp only [concs, conc, SX.eval]
      exact this
    · intro w
      have := (pickOK b 130 ⟨by omega, by omega⟩ w).mono (fun e w' (h : _ ∧ _) => (⟨h.1, h.2 ▸ RowKit.Below.refl _ _⟩ : e = .returned (.int .i64 (b % 130)) ∧ RowKit.Below w.heap.size w w'))
      simp only [concs, conc, SX.eval]
      exact this
  have h0 : Holds (fun k => [a, b, a % 130, b % 130].getD k 0) [.ge (.a 2) 0, .le (.a 2) 129, .ge (.a 3) 0, .le (.a 3) 129] := by
    intro f hf
    simp only [List.mem_cons, List.not_mem_nil, or_false] at hf
    rcases hf with rfl | rfl | rfl | rfl
    · show (0 : Int) ≤ a % 130; omega
    · show a % 130 ≤ 129; omega
    · show (0 : Int) ≤ b % 130; omega
    · show b % 130 ≤ 129; omega
  exact apart h0 ht w

end Go.Proofs.Ytgaecdjfgffonaa.Apart
