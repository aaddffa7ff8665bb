/-
  'SseApart' says true of any two numbers: the ways through it, each a run; the ways that cannot be, by a look at all pairs of rows.
-/
import Derived.Test.YtjkegmlfloomlaaTab
import Derived.Test.YtjkegmlfloomlaaPick
import Derived.Test.YtjkegmlfloomlaaSimB
import Derived.KernelRfl
namespace Go.Proofs.Ytjkegmlfloomlaa.Apart
open Go.Sim Go.Proofs.Ytjkegmlfloomlaa.Tab
set_option maxRecDepth 100000

def T0 : List Int := [0, 0, 0, 0, 0, 0, 0, 0, 0, 0, 0, 0, 0, 0, 0, 0, 0, 0, 0, 0, 0, 0, 0, 0, 0, 0, 0, 0, 0, 0, 0, 0, 0, 0, 0, 0, 0, 0, 0, 0, 0, 0, 0, 0, 0, 0, 0, 0, 0, 0, 0, 0, 0, 0, 0, 0, 0, 0, 0, 0, 0, 0, 0, 0, 0, 0, 0, 0, 0, 0, 0, 0, 0, 0, 0, 0, 0, 0, 0, 0, 0, 0, 0, 0, 0, 0, 0, 0, 0, 0, 0, 0, 0, 0, 0, 0, 0, 0, 0, 0, 0, 0, 0, 0, 0, 0, 0, 0, 0, 0, 0, 0, 0, 0, 0, 0, 0, 0, 0, 0, 0, 0, 0, 0, 0, 0, 0, 0, 0, 0, 0, 0, 0, 0, 0, 0, 0, 0, 0, 0, 0, 0, 0, 0, 0, 0, 0, 0, 0, 0, 0]

def T1 : List Int := [0, 0, 1, 1, 0, 0, 1, 1, 4, 4, 2, 2, 1, 1, 4, 4, 1, 1, 1, 1, 4, 1, 0, 1, 4, 2, 0, 1, 4, 2, 0, 1, 4, 2, 0, 1, 4, 2, 0, 1, 4, 2, 0, 1, 4, 2, 0, 1, 4, 2, 0, 1, 0, 1, 0, 1, 0, 1, 0, 1, 0, 1, 4, 4, 2, 2, 4, 4, 2, 2, 4, 2, 0, 1, 0, 1, 0, 1, 1, 1, 1, 1, 1, 1, 1, 1, 1, 1, 1, 1, 1, 1, 1, 1, 1, 1, 1, 1, 1, 1, 1, 1, 1, 1, 1, 1, 1, 1, 1, 1, 1, 1, 1, 1, 1, 1, 1, 1, 1, 1, 1, 1, 1, 1, 1, 1, 1, 1, 1, 1, 1, 1, 1, 1, 1, 1, 1, 1, 1, 1, 1, 1, 1, 1, 2, 4, 1, 1, 1, 1, 1]

def T2 : List Int := [0, 0, 0, 0, 0, 0, 0, 0, 0, 0, 0, 0, 0, 0, 0, 0, 0, 0, 1, 1, 0, 0, 0, 0, 0, 0, 0, 0, 0, 0, 0, 0, 0, 0, 0, 0, 0, 0, 0, 0, 0, 0, 0, 0, 0, 0, 0, 0, 0, 0, 0, 0, 0, 0, 0, 0, 0, 0, 0, 0, 0, 0, 0, 1, 0, 1, 0, 1, 0, 1, 0, 0, 0, 0, 0, 0, 0, 0, 0, 0, 0, 0, 0, 0, 0, 0, 0, 0, 0, 0, 0, 0, 0, 0, 0, 0, 0, 0, 0, 0, 0, 0, 0, 0, 0, 0, 0, 0, 0, 0, 0, 0, 0, 0, 0, 0, 0, 0, 0, 0, 0, 0, 0, 0, 0, 0, 0, 0, 0, 0, 0, 0, 0, 0, 0, 0, 0, 0, 0, 0, 0, 0, 0, 0, 0, 0, 0, 0, 0, 0, 0]

def T3 : List Int := [1, 1, 1, 1, 1, 1, 1, 1, 1, 1, 1, 1, 1, 1, 1, 1, 1, 1, 1, 1, 1, 1, 1, 1, 1, 1, 1, 1, 1, 1, 1, 1, 1, 1, 1, 1, 1, 1, 1, 1, 1, 1, 1, 1, 1, 1, 1, 1, 1, 1, 1, 1, 1, 1, 1, 1, 1, 1, 1, 1, 1, 1, 1, 1, 1, 1, 1, 1, 1, 1, 1, 1, 1, 1, 1, 1, 1, 1, 1, 1, 1, 1, 1, 1, 1, 1, 1, 2, 1, 1, 1, 1, 1, 1, 1, 1, 1, 1, 1, 1, 1, 1, 1, 1, 1, 1, 1, 1, 1, 1, 1, 1, 1, 1, 1, 1, 1, 2, 2, 2, 2, 2, 2, 2, 2, 1, 1, 1, 1, 1, 1, 1, 1, 1, 1, 1, 1, 1, 1, 1, 1, 1, 1, 1, 1, 1, 3, 3, 1, 3, 3]

def T4 : List Int := [40, 41, 40, 41, 16, 17, 16, 17, 16, 17, 16, 17, 111, 127, 111, 127, 110, 126, 110, 126, 126, 214, 88, 88, 88, 88, 92, 92, 92, 92, 89, 89, 89, 89, 94, 94, 94, 94, 93, 93, 93, 93, 95, 95, 95, 95, 81, 81, 81, 81, 84, 84, 85, 85, 86, 86, 87, 87, 46, 46, 47, 47, 42, 42, 42, 42, 44, 44, 44, 44, 90, 90, 198, 198, 20, 20, 21, 21, 252, 253, 254, 212, 248, 249, 250, 251, 213, 64, 244, 219, 223, 235, 239, 116, 117, 118, 100, 101, 102, 218, 222, 234, 238, 224, 227, 246, 96, 97, 98, 108, 104, 105, 106, 109, 99, 103, 107, 43, 0, 1, 2, 28, 29, 30, 23, 241, 113, 242, 114, 243, 115, 209, 113, 210, 114, 211, 115, 225, 113, 226, 114, 115, 115, 112, 112, 112, 15, 14, 215, 10, 11]

def T5 : List Int := [(-1), (-1), (-1), (-1), (-1), (-1), (-1), (-1), (-1), (-1), (-1), (-1), (-1), (-1), (-1), (-1), (-1), (-1), (-1), (-1), (-1), (-1), (-1), (-1), (-1), (-1), (-1), (-1), (-1), (-1), (-1), (-1), (-1), (-1), (-1), (-1), (-1), (-1), (-1), (-1), (-1), (-1), (-1), (-1), (-1), (-1), (-1), (-1), (-1), (-1), (-1), (-1), (-1), (-1), (-1), (-1), (-1), (-1), (-1), (-1), (-1), (-1), (-1), (-1), (-1), (-1), (-1), (-1), (-1), (-1), (-1), (-1), (-1), (-1), (-1), (-1), (-1), (-1), (-1), (-1), (-1), (-1), (-1), (-1), (-1), (-1), (-1), (-1), (-1), (-1), (-1), (-1), (-1), (-1), (-1), (-1), (-1), (-1), (-1), (-1), (-1), (-1), (-1), (-1), (-1), (-1), (-1), (-1), (-1), (-1), (-1), (-1), (-1), (-1), (-1), (-1), (-1), (-1), (-1), (-1), (-1), (-1), (-1), (-1), (-1), (-1), 6, (-1), 6, (-1), 6, (-1), 2, (-1), 2, (-1), 2, (-1), 4, (-1), 4, 7, 3, (-1), (-1), (-1), (-1), (-1), (-1), (-1), (-1)]

abbrev sl0 : Nat → Option Addr × Nat := fun _ => (none, 0)

abbrev tab : List (FuncId × List AV × AV) := [(15, [.sx .i64 (.a 0), .v (.int .i64 (.ofNat 151))], .sx .i64 (.a 2)), (15, [.sx .i64 (.a 1), .v (.int .i64 (.ofNat 151))], .sx .i64 (.a 3))]

abbrev args : List AV := [.sx .i64 (.a 0), .sx .i64 (.a 1)]

def Q (val : Nat → Int) : Prop := Ret Try.prog 6 [.int .i64 (val 0), .int .i64 (val 1)] (.bool true)

theorem leaf {val : Nat → Int} {F : List Fact} (h : Holds val F) (ht : TabOK Try.prog val sl0 tab) (hg : saysTrue (@run (symsOf val F h sl0) Try.prog (orElse orc0 (tabO tab)) 1000 6 args) = true) : Q val := by
  have := leafTab (orc := orc0) h orc0OK mix (by kernel_rfl) (by kernel_rfl) (by kernel_rfl) ht hg
  simp only [concs, conc, SX.eval] at this
  exact this

/-! All pairs of rows. -/

abbrev Row := Nat × Nat × Nat

def R (x y : Row) : Bool := !(Nat.beq x.1 y.1) || (Nat.ble 1 x.2.2 && Nat.ble 1 y.2.2 && !Nat.beq x.2.2 y.2.2) || (Nat.ble 1 x.2.1 && Nat.ble 1 y.2.1 && !Nat.beq x.2.1 y.2.1)

def apartL : List Row → Bool
  | [] => true
  | x :: r => r.all (fun y => R x y && R y x) && apartL r

theorem apartL_pw : ∀ (l : List Row), apartL l = true → l.Pairwise (fun x y => R x y = true ∧ R y x = true)
  | [], _ => List.Pairwise.nil
  | x :: r, h => by
    simp only [apartL, Bool.and_eq_true, List.all_eq_true] at h
    exact List.Pairwise.cons (fun y hy => h.1 y hy) (apartL_pw r h.2)

theorem apart_fn (f : Nat → Row) (n : Nat) (lit : List Row) (he : (List.range n).map f = lit) (h : apartL lit = true) (i k : Nat) (hi : i < n) (hk : k < n) (hne : i ≠ k) : R (f i) (f k) = true := by
  subst he
  have hp := List.pairwise_iff_getElem.1 (apartL_pw _ h)
  rcases Nat.lt_or_gt_of_ne hne with hlt | hlt
  · have := (hp i k (by simpa using hi) (by simpa using hk) hlt).1
    simpa using this
  · have := (hp k i (by simpa using hk) (by simpa using hi) hlt).2
    simpa using this

def rowOf (i : Nat) : Row := (((((0) * 1000 + (T0.getD i (T0.headD 0) + 1).toNat) * 1000 + (T1.getD i (T1.headD 0) + 1).toNat) * 1000 + (T3.getD i (T3.headD 0) + 1).toNat) * 1000 + (T4.getD i (T4.headD 0) + 1).toNat, (T5.getD i (T5.headD 0) + 1).toNat, (T2.getD i (T2.headD 0) + 1).toNat)

def lit : List Row := [(1001002041, 0, 1), (1001002042, 0, 1), (1002002041, 0, 1), (1002002042, 0, 1), (1001002017, 0, 1), (1001002018, 0, 1), (1002002017, 0, 1), (1002002018, 0, 1), (1005002017, 0, 1), (1005002018, 0, 1), (1003002017, 0, 1), (1003002018, 0, 1), (1002002112, 0, 1), (1002002128, 0, 1), (1005002112, 0, 1), (1005002128, 0, 1), (1002002111, 0, 1), (1002002127, 0, 1), (1002002111, 0, 2), (1002002127, 0, 2), (1005002127, 0, 1), (1002002215, 0, 1), (1001002089, 0, 1), (1002002089, 0, 1), (1005002089, 0, 1), (1003002089, 0, 1), (1001002093, 0, 1), (1002002093, 0, 1), (1005002093, 0, 1), (1003002093, 0, 1), (1001002090, 0, 1), (1002002090, 0, 1), (1005002090, 0, 1), (1003002090, 0, 1), (1001002095, 0, 1), (1002002095, 0, 1), (1005002095, 0, 1), (1003002095, 0, 1), (1001002094, 0, 1), (1002002094, 0, 1), (1005002094, 0, 1), (1003002094, 0, 1), (1001002096, 0, 1), (1002002096, 0, 1), (1005002096, 0, 1), (1003002096, 0, 1), (1001002082, 0, 1), (1002002082, 0, 1), (1005002082, 0, 1), (1003002082, 0, 1), (1001002085, 0, 1), (1002002085, 0, 1), (1001002086, 0, 1), (1002002086, 0, 1), (1001002087, 0, 1), (1002002087, 0, 1), (1001002088, 0, 1), (1002002088, 0, 1), (1001002047, 0, 1), (1002002047, 0, 1), (1001002048, 0, 1), (1002002048, 0, 1), (1005002043, 0, 1), (1005002043, 0, 2), (1003002043, 0, 1), (1003002043, 0, 2), (1005002045, 0, 1), (1005002045, 0, 2), (1003002045, 0, 1), (1003002045, 0, 2), (1005002091, 0, 1), (1003002091, 0, 1), (1001002199, 0, 1), (1002002199, 0, 1), (1001002021, 0, 1), (1002002021, 0, 1), (1001002022, 0, 1), (1002002022, 0, 1), (1002002253, 0, 1), (1002002254, 0, 1), (1002002255, 0, 1), (1002002213, 0, 1), (1002002249, 0, 1), (1002002250, 0, 1), (1002002251, 0, 1), (1002002252, 0, 1), (1002002214, 0, 1), (1002003065, 0, 1), (1002002245, 0, 1), (1002002220, 0, 1), (1002002224, 0, 1), (1002002236, 0, 1), (1002002240, 0, 1), (1002002117, 0, 1), (1002002118, 0, 1), (1002002119, 0, 1), (1002002101, 0, 1), (1002002102, 0, 1), (1002002103, 0, 1), (1002002219, 0, 1), (1002002223, 0, 1), (1002002235, 0, 1), (1002002239, 0, 1), (1002002225, 0, 1), (1002002228, 0, 1), (1002002247, 0, 1), (1002002097, 0, 1), (1002002098, 0, 1), (1002002099, 0, 1), (1002002109, 0, 1), (1002002105, 0, 1), (1002002106, 0, 1), (1002002107, 0, 1), (1002002110, 0, 1), (1002002100, 0, 1), (1002002104, 0, 1), (1002002108, 0, 1), (1002003044, 0, 1), (1002003001, 0, 1), (1002003002, 0, 1), (1002003003, 0, 1), (1002003029, 0, 1), (1002003030, 0, 1), (1002003031, 0, 1), (1002003024, 0, 1), (1002002242, 0, 1), (1002002114, 7, 1), (1002002243, 0, 1), (1002002115, 7, 1), (1002002244, 0, 1), (1002002116, 7, 1), (1002002210, 0, 1), (1002002114, 3, 1), (1002002211, 0, 1), (1002002115, 3, 1), (1002002212, 0, 1), (1002002116, 3, 1), (1002002226, 0, 1), (1002002114, 5, 1), (1002002227, 0, 1), (1002002115, 5, 1), (1002002116, 8, 1), (1002002116, 4, 1), (1002002113, 0, 1), (1003002113, 0, 1), (1005002113, 0, 1), (1002004016, 0, 1), (1002004015, 0, 1), (1002002216, 0, 1), (1002004011, 0, 1), (1002004012, 0, 1)]

theorem litEq : (List.range 151).map rowOf = lit := by kernel_rfl

theorem litApart : apartL lit = true := by kernel_rfl

theorem none_such {val : Nat → Int} (r0 : 0 ≤ val 2) (r1 : val 2 ≤ 150) (r2 : 0 ≤ val 3) (r3 : val 3 ≤ 150) (hne : val 2 ≠ val 3) (c0 : (SX.tab T0 (.a 2)).eval val = (SX.tab T0 (.a 3)).eval val) (c1 : (SX.tab T1 (.a 2)).eval val = (SX.tab T1 (.a 3)).eval val) (c2 : (SX.tab T3 (.a 2)).eval val = (SX.tab T3 (.a 3)).eval val) (c3 : (SX.tab T4 (.a 2)).eval val = (SX.tab T4 (.a 3)).eval val) (hw : (SX.tab T2 (.a 2)).eval val = (SX.tab T2 (.a 3)).eval val ∨ (SX.tab T2 (.a 2)).eval val < 0 ∨ (SX.tab T2 (.a 3)).eval val < 0) : 0 ≤ (SX.tab T5 (.a 2)).eval val ∧ 0 ≤ (SX.tab T5 (.a 3)).eval val ∧ (SX.tab T5 (.a 2)).eval val ≠ (SX.tab T5 (.a 3)).eval val := by
  simp only [SX.eval] at c0 c1 c2 c3 hw ⊢
  have h := apart_fn rowOf 151 lit litEq litApart (val 2).toNat (val 3).toNat (by omega) (by omega) (by omega)
  have e : (rowOf (val 2).toNat).1 = (rowOf (val 3).toNat).1 := by
    simp only [rowOf]
    rw [c0, c1, c2, c3]
  simp only [R, Bool.or_eq_true, Bool.and_eq_true, Bool.not_eq_true'] at h
  rcases h with (h | h) | h
  · exact absurd e (Nat.ne_of_beq_eq_false h)
  · have h1 := Nat.le_of_ble_eq_true h.1.1
    have h2 := Nat.le_of_ble_eq_true h.1.2
    have h3 := Nat.ne_of_beq_eq_false h.2
    simp only [rowOf] at h1 h2 h3
    omega
  · have h1 := Nat.le_of_ble_eq_true h.1.1
    have h2 := Nat.le_of_ble_eq_true h.1.2
    have h3 := Nat.ne_of_beq_eq_false h.2
    simp only [rowOf] at h1 h2 h3
    omega

theorem l0 {val : Nat → Int} (h : Holds val [.at (.eq (.a 2) (.a 3)) true, .at (.eq (.tab T3 (.a 2)) (.tab T3 (.a 3))) true, .at (.eq (.tab T2 (.a 2)) (.tab T2 (.a 3))) true, .at (.eq (.tab T1 (.a 2)) (.tab T1 (.a 3))) true, .at (.eq (.tab T0 (.a 2)) (.tab T0 (.a 3))) true, .ge (.a 2) 0, .le (.a 2) 150, .ge (.a 3) 0, .le (.a 3) 150]) (ht : TabOK Try.prog val sl0 tab) : Q val := leaf h ht (by kernel_rfl)

theorem l1 {val : Nat → Int} (h : Holds val [.at (.eq (.tab T5 (.a 2)) (.tab T5 (.a 3))) true, .ge (.tab T5 (.a 3)) 0, .ge (.tab T5 (.a 2)) 0, .at (.eq (.tab T4 (.a 2)) (.tab T4 (.a 3))) true, .at (.eq (.a 2) (.a 3)) false, .at (.eq (.tab T3 (.a 2)) (.tab T3 (.a 3))) true, .at (.eq (.tab T2 (.a 2)) (.tab T2 (.a 3))) true, .at (.eq (.tab T1 (.a 2)) (.tab T1 (.a 3))) true, .at (.eq (.tab T0 (.a 2)) (.tab T0 (.a 3))) true, .ge (.a 2) 0, .le (.a 2) 150, .ge (.a 3) 0, .le (.a 3) 150]) (_ : TabOK Try.prog val sl0 tab) : Q val := by
  exfalso
  have f0 : (SX.tab T5 (.a 2)).eval val = (SX.tab T5 (.a 3)).eval val := eq_of_beq (h _ (List.Mem.head _))
  have f1 : 0 ≤ (SX.tab T5 (.a 3)).eval val := h _ (List.Mem.tail _ (List.Mem.head _))
  have f2 : 0 ≤ (SX.tab T5 (.a 2)).eval val := h _ (List.Mem.tail _ (List.Mem.tail _ (List.Mem.head _)))
  have f3 : (SX.tab T4 (.a 2)).eval val = (SX.tab T4 (.a 3)).eval val := eq_of_beq (h _ (List.Mem.tail _ (List.Mem.tail _ (List.Mem.tail _ (List.Mem.head _)))))
  have f4 : val 2 ≠ val 3 := ne_of_beq_false (h _ (List.Mem.tail _ (List.Mem.tail _ (List.Mem.tail _ (List.Mem.tail _ (List.Mem.head _))))))
  have f5 : (SX.tab T3 (.a 2)).eval val = (SX.tab T3 (.a 3)).eval val := eq_of_beq (h _ (List.Mem.tail _ (List.Mem.tail _ (List.Mem.tail _ (List.Mem.tail _ (List.Mem.tail _ (List.Mem.head _)))))))
  have f6 : (SX.tab T2 (.a 2)).eval val = (SX.tab T2 (.a 3)).eval val := eq_of_beq (h _ (List.Mem.tail _ (List.Mem.tail _ (List.Mem.tail _ (List.Mem.tail _ (List.Mem.tail _ (List.Mem.tail _ (List.Mem.head _))))))))
  have f7 : (SX.tab T1 (.a 2)).eval val = (SX.tab T1 (.a 3)).eval val := eq_of_beq (h _ (List.Mem.tail _ (List.Mem.tail _ (List.Mem.tail _ (List.Mem.tail _ (List.Mem.tail _ (List.Mem.tail _ (List.Mem.tail _ (List.Mem.head _)))))))))
  have f8 : (SX.tab T0 (.a 2)).eval val = (SX.tab T0 (.a 3)).eval val := eq_of_beq (h _ (List.Mem.tail _ (List.Mem.tail _ (List.Mem.tail _ (List.Mem.tail _ (List.Mem.tail _ (List.Mem.tail _ (List.Mem.tail _ (List.Mem.tail _ (List.Mem.head _))))))))))
  have f9 : 0 ≤ val 2 := h _ (List.Mem.tail _ (List.Mem.tail _ (List.Mem.tail _ (List.Mem.tail _ (List.Mem.tail _ (List.Mem.tail _ (List.Mem.tail _ (List.Mem.tail _ (List.Mem.tail _ (List.Mem.head _))))))))))
  have f10 : val 2 ≤ 150 := h _ (List.Mem.tail _ (List.Mem.tail _ (List.Mem.tail _ (List.Mem.tail _ (List.Mem.tail _ (List.Mem.tail _ (List.Mem.tail _ (List.Mem.tail _ (List.Mem.tail _ (List.Mem.tail _ (List.Mem.head _)))))))))))
  have f11 : 0 ≤ val 3 := h _ (List.Mem.tail _ (List.Mem.tail _ (List.Mem.tail _ (List.Mem.tail _ (List.Mem.tail _ (List.Mem.tail _ (List.Mem.tail _ (List.Mem.tail _ (List.Mem.tail _ (List.Mem.tail _ (List.Mem.tail _ (List.Mem.head _))))))))))))
  have f12 : val 3 ≤ 150 := h _ (List.Mem.tail _ (List.Mem.tail _ (List.Mem.tail _ (List.Mem.tail _ (List.Mem.tail _ (List.Mem.tail _ (List.Mem.tail _ (List.Mem.tail _ (List.Mem.tail _ (List.Mem.tail _ (List.Mem.tail _ (List.Mem.tail _ (List.Mem.head _)))))))))))))
  have hn := none_such (val := val) (by omega) (by omega) (by omega) (by omega) (by omega) (by omega) (by omega) (by omega) (by omega) (by omega)
  omega

theorem l2 {val : Nat → Int} (h : Holds val [.at (.eq (.tab T5 (.a 2)) (.tab T5 (.a 3))) false, .ge (.tab T5 (.a 3)) 0, .ge (.tab T5 (.a 2)) 0, .at (.eq (.tab T4 (.a 2)) (.tab T4 (.a 3))) true, .at (.eq (.a 2) (.a 3)) false, .at (.eq (.tab T3 (.a 2)) (.tab T3 (.a 3))) true, .at (.eq (.tab T2 (.a 2)) (.tab T2 (.a 3))) true, .at (.eq (.tab T1 (.a 2)) (.tab T1 (.a 3))) true, .at (.eq (.tab T0 (.a 2)) (.tab T0 (.a 3))) true, .ge (.a 2) 0, .le (.a 2) 150, .ge (.a 3) 0, .le (.a 3) 150]) (ht : TabOK Try.prog val sl0 tab) : Q val := leaf h ht (by kernel_rfl)

theorem l3 {val : Nat → Int} (h : Holds val [.le (.tab T5 (.a 3)) (-1), .ge (.tab T5 (.a 2)) 0, .at (.eq (.tab T4 (.a 2)) (.tab T4 (.a 3))) true, .at (.eq (.a 2) (.a 3)) false, .at (.eq (.tab T3 (.a 2)) (.tab T3 (.a 3))) true, .at (.eq (.tab T2 (.a 2)) (.tab T2 (.a 3))) true, .at (.eq (.tab T1 (.a 2)) (.tab T1 (.a 3))) true, .at (.eq (.tab T0 (.a 2)) (.tab T0 (.a 3))) true, .ge (.a 2) 0, .le (.a 2) 150, .ge (.a 3) 0, .le (.a 3) 150]) (_ : TabOK Try.prog val sl0 tab) : Q val := by
  exfalso
  have f0 : (SX.tab T5 (.a 3)).eval val ≤ (-1) := h _ (List.Mem.head _)
  have f1 : 0 ≤ (SX.tab T5 (.a 2)).eval val := h _ (List.Mem.tail _ (List.Mem.head _))
  have f2 : (SX.tab T4 (.a 2)).eval val = (SX.tab T4 (.a 3)).eval val := eq_of_beq (h _ (List.Mem.tail _ (List.Mem.tail _ (List.Mem.head _))))
  have f3 : val 2 ≠ val 3 := ne_of_beq_false (h _ (List.Mem.tail _ (List.Mem.tail _ (List.Mem.tail _ (List.Mem.head _)))))
  have f4 : (SX.tab T3 (.a 2)).eval val = (SX.tab T3 (.a 3)).eval val := eq_of_beq (h _ (List.Mem.tail _ (List.Mem.tail _ (List.Mem.tail _ (List.Mem.tail _ (List.Mem.head _))))))
  have f5 : (SX.tab T2 (.a 2)).eval val = (SX.tab T2 (.a 3)).eval val := eq_of_beq (h _ (List.Mem.tail _ (List.Mem.tail _ (List.Mem.tail _ (List.Mem.tail _ (List.Mem.tail _ (List.Mem.head _)))))))
  have f6 : (SX.tab T1 (.a 2)).eval val = (SX.tab T1 (.a 3)).eval val := eq_of_beq (h _ (List.Mem.tail _ (List.Mem.tail _ (List.Mem.tail _ (List.Mem.tail _ (List.Mem.tail _ (List.Mem.tail _ (List.Mem.head _))))))))
  have f7 : (SX.tab T0 (.a 2)).eval val = (SX.tab T0 (.a 3)).eval val := eq_of_beq (h _ (List.Mem.tail _ (List.Mem.tail _ (List.Mem.tail _ (List.Mem.tail _ (List.Mem.tail _ (List.Mem.tail _ (List.Mem.tail _ (List.Mem.head _)))))))))
  have f8 : 0 ≤ val 2 := h _ (List.Mem.tail _ (List.Mem.tail _ (List.Mem.tail _ (List.Mem.tail _ (List.Mem.tail _ (List.Mem.tail _ (List.Mem.tail _ (List.Mem.tail _ (List.Mem.head _)))))))))
  have f9 : val 2 ≤ 150 := h _ (List.Mem.tail _ (List.Mem.tail _ (List.Mem.tail _ (List.Mem.tail _ (List.Mem.tail _ (List.Mem.tail _ (List.Mem.tail _ (List.Mem.tail _ (List.Mem.tail _ (List.Mem.head _))))))))))
  have f10 : 0 ≤ val 3 := h _ (List.Mem.tail _ (List.Mem.tail _ (List.Mem.tail _ (List.Mem.tail _ (List.Mem.tail _ (List.Mem.tail _ (List.Mem.tail _ (List.Mem.tail _ (List.Mem.tail _ (List.Mem.tail _ (List.Mem.head _)))))))))))
  have f11 : val 3 ≤ 150 := h _ (List.Mem.tail _ (List.Mem.tail _ (List.Mem.tail _ (List.Mem.tail _ (List.Mem.tail _ (List.Mem.tail _ (List.Mem.tail _ (List.Mem.tail _ (List.Mem.tail _ (List.Mem.tail _ (List.Mem.tail _ (List.Mem.head _))))))))))))
  have hn := none_such (val := val) (by omega) (by omega) (by omega) (by omega) (by omega) (by omega) (by omega) (by omega) (by omega) (by omega)
  omega

theorem l4 {val : Nat → Int} (h : Holds val [.le (.tab T5 (.a 2)) (-1), .at (.eq (.tab T4 (.a 2)) (.tab T4 (.a 3))) true, .at (.eq (.a 2) (.a 3)) false, .at (.eq (.tab T3 (.a 2)) (.tab T3 (.a 3))) true, .at (.eq (.tab T2 (.a 2)) (.tab T2 (.a 3))) true, .at (.eq (.tab T1 (.a 2)) (.tab T1 (.a 3))) true, .at (.eq (.tab T0 (.a 2)) (.tab T0 (.a 3))) true, .ge (.a 2) 0, .le (.a 2) 150, .ge (.a 3) 0, .le (.a 3) 150]) (_ : TabOK Try.prog val sl0 tab) : Q val := by
  exfalso
  have f0 : (SX.tab T5 (.a 2)).eval val ≤ (-1) := h _ (List.Mem.head _)
  have f1 : (SX.tab T4 (.a 2)).eval val = (SX.tab T4 (.a 3)).eval val := eq_of_beq (h _ (List.Mem.tail _ (List.Mem.head _)))
  have f2 : val 2 ≠ val 3 := ne_of_beq_false (h _ (List.Mem.tail _ (List.Mem.tail _ (List.Mem.head _))))
  have f3 : (SX.tab T3 (.a 2)).eval val = (SX.tab T3 (.a 3)).eval val := eq_of_beq (h _ (List.Mem.tail _ (List.Mem.tail _ (List.Mem.tail _ (List.Mem.head _)))))
  have f4 : (SX.tab T2 (.a 2)).eval val = (SX.tab T2 (.a 3)).eval val := eq_of_beq (h _ (List.Mem.tail _ (List.Mem.tail _ (List.Mem.tail _ (List.Mem.tail _ (List.Mem.head _))))))
  have f5 : (SX.tab T1 (.a 2)).eval val = (SX.tab T1 (.a 3)).eval val := eq_of_beq (h _ (List.Mem.tail _ (List.Mem.tail _ (List.Mem.tail _ (List.Mem.tail _ (List.Mem.tail _ (List.Mem.head _)))))))
  have f6 : (SX.tab T0 (.a 2)).eval val = (SX.tab T0 (.a 3)).eval val := eq_of_beq (h _ (List.Mem.tail _ (List.Mem.tail _ (List.Mem.tail _ (List.Mem.tail _ (List.Mem.tail _ (List.Mem.tail _ (List.Mem.head _))))))))
  have f7 : 0 ≤ val 2 := h _ (List.Mem.tail _ (List.Mem.tail _ (List.Mem.tail _ (List.Mem.tail _ (List.Mem.tail _ (List.Mem.tail _ (List.Mem.tail _ (List.Mem.head _))))))))
  have f8 : val 2 ≤ 150 := h _ (List.Mem.tail _ (List.Mem.tail _ (List.Mem.tail _ (List.Mem.tail _ (List.Mem.tail _ (List.Mem.tail _ (List.Mem.tail _ (List.Mem.tail _ (List.Mem.head _)))))))))
  have f9 : 0 ≤ val 3 := h _ (List.Mem.tail _ (List.Mem.tail _ (List.Mem.tail _ (List.Mem.tail _ (List.Mem.tail _ (List.Mem.tail _ (List.Mem.tail _ (List.Mem.tail _ (List.Mem.tail _ (List.Mem.head _))))))))))
  have f10 : val 3 ≤ 150 := h _ (List.Mem.tail _ (List.Mem.tail _ (List.Mem.tail _ (List.Mem.tail _ (List.Mem.tail _ (List.Mem.tail _ (List.Mem.tail _ (List.Mem.tail _ (List.Mem.tail _ (List.Mem.tail _ (List.Mem.head _)))))))))))
  have hn := none_such (val := val) (by omega) (by omega) (by omega) (by omega) (by omega) (by omega) (by omega) (by omega) (by omega) (by omega)
  omega

theorem l5 {val : Nat → Int} (h : Holds val [.at (.eq (.tab T4 (.a 2)) (.tab T4 (.a 3))) false, .at (.eq (.a 2) (.a 3)) false, .at (.eq (.tab T3 (.a 2)) (.tab T3 (.a 3))) true, .at (.eq (.tab T2 (.a 2)) (.tab T2 (.a 3))) true, .at (.eq (.tab T1 (.a 2)) (.tab T1 (.a 3))) true, .at (.eq (.tab T0 (.a 2)) (.tab T0 (.a 3))) true, .ge (.a 2) 0, .le (.a 2) 150, .ge (.a 3) 0, .le (.a 3) 150]) (ht : TabOK Try.prog val sl0 tab) : Q val := leaf h ht (by kernel_rfl)

theorem l6 {val : Nat → Int} (h : Holds val [.at (.eq (.a 2) (.a 3)) true, .at (.eq (.tab T3 (.a 2)) (.tab T3 (.a 3))) false, .at (.eq (.tab T2 (.a 2)) (.tab T2 (.a 3))) true, .at (.eq (.tab T1 (.a 2)) (.tab T1 (.a 3))) true, .at (.eq (.tab T0 (.a 2)) (.tab T0 (.a 3))) true, .ge (.a 2) 0, .le (.a 2) 150, .ge (.a 3) 0, .le (.a 3) 150]) (ht : TabOK Try.prog val sl0 tab) : Q val := leaf h ht (by kernel_rfl)

theorem l7 {val : Nat → Int} (h : Holds val [.at (.eq (.a 2) (.a 3)) false, .at (.eq (.tab T3 (.a 2)) (.tab T3 (.a 3))) false, .at (.eq (.tab T2 (.a 2)) (.tab T2 (.a 3))) true, .at (.eq (.tab T1 (.a 2)) (.tab T1 (.a 3))) true, .at (.eq (.tab T0 (.a 2)) (.tab T0 (.a 3))) true, .ge (.a 2) 0, .le (.a 2) 150, .ge (.a 3) 0, .le (.a 3) 150]) (ht : TabOK Try.prog val sl0 tab) : Q val := leaf h ht (by kernel_rfl)

theorem l8 {val : Nat → Int} (h : Holds val [.at (.eq (.a 2) (.a 3)) true, .at (.eq (.tab T3 (.a 2)) (.tab T3 (.a 3))) true, .le (.tab T2 (.a 2)) (-1), .at (.eq (.tab T2 (.a 2)) (.tab T2 (.a 3))) false, .at (.eq (.tab T1 (.a 2)) (.tab T1 (.a 3))) true, .at (.eq (.tab T0 (.a 2)) (.tab T0 (.a 3))) true, .ge (.a 2) 0, .le (.a 2) 150, .ge (.a 3) 0, .le (.a 3) 150]) (ht : TabOK Try.prog val sl0 tab) : Q val := leaf h ht (by kernel_rfl)

theorem l9 {val : Nat → Int} (h : Holds val [.at (.eq (.tab T5 (.a 2)) (.tab T5 (.a 3))) true, .ge (.tab T5 (.a 3)) 0, .ge (.tab T5 (.a 2)) 0, .at (.eq (.tab T4 (.a 2)) (.tab T4 (.a 3))) true, .at (.eq (.a 2) (.a 3)) false, .at (.eq (.tab T3 (.a 2)) (.tab T3 (.a 3))) true, .le (.tab T2 (.a 2)) (-1), .at (.eq (.tab T2 (.a 2)) (.tab T2 (.a 3))) false, .at (.eq (.tab T1 (.a 2)) (.tab T1 (.a 3))) true, .at (.eq (.tab T0 (.a 2)) (.tab T0 (.a 3))) true, .ge (.a 2) 0, .le (.a 2) 150, .ge (.a 3) 0, .le (.a 3) 150]) (_ : TabOK Try.prog val sl0 tab) : Q val := by
  exfalso
  have f0 : (SX.tab T5 (.a 2)).eval val = (SX.tab T5 (.a 3)).eval val := eq_of_beq (h _ (List.Mem.head _))
  have f1 : 0 ≤ (SX.tab T5 (.a 3)).eval val := h _ (List.Mem.tail _ (List.Mem.head _))
  have f2 : 0 ≤ (SX.tab T5 (.a 2)).eval val := h _ (List.Mem.tail _ (List.Mem.tail _ (List.Mem.head _)))
  have f3 : (SX.tab T4 (.a 2)).eval val = (SX.tab T4 (.a 3)).eval val := eq_of_beq (h _ (List.Mem.tail _ (List.Mem.tail _ (List.Mem.tail _ (List.Mem.head _)))))
  have f4 : val 2 ≠ val 3 := ne_of_beq_false (h _ (List.Mem.tail _ (List.Mem.tail _ (List.Mem.tail _ (List.Mem.tail _ (List.Mem.head _))))))
  have f5 : (SX.tab T3 (.a 2)).eval val = (SX.tab T3 (.a 3)).eval val := eq_of_beq (h _ (List.Mem.tail _ (List.Mem.tail _ (List.Mem.tail _ (List.Mem.tail _ (List.Mem.tail _ (List.Mem.head _)))))))
  have f6 : (SX.tab T2 (.a 2)).eval val ≤ (-1) := h _ (List.Mem.tail _ (List.Mem.tail _ (List.Mem.tail _ (List.Mem.tail _ (List.Mem.tail _ (List.Mem.tail _ (List.Mem.head _)))))))
  have f7 : (SX.tab T2 (.a 2)).eval val ≠ (SX.tab T2 (.a 3)).eval val := ne_of_beq_false (h _ (List.Mem.tail _ (List.Mem.tail _ (List.Mem.tail _ (List.Mem.tail _ (List.Mem.tail _ (List.Mem.tail _ (List.Mem.tail _ (List.Mem.head _)))))))))
  have f8 : (SX.tab T1 (.a 2)).eval val = (SX.tab T1 (.a 3)).eval val := eq_of_beq (h _ (List.Mem.tail _ (List.Mem.tail _ (List.Mem.tail _ (List.Mem.tail _ (List.Mem.tail _ (List.Mem.tail _ (List.Mem.tail _ (List.Mem.tail _ (List.Mem.head _))))))))))
  have f9 : (SX.tab T0 (.a 2)).eval val = (SX.tab T0 (.a 3)).eval val := eq_of_beq (h _ (List.Mem.tail _ (List.Mem.tail _ (List.Mem.tail _ (List.Mem.tail _ (List.Mem.tail _ (List.Mem.tail _ (List.Mem.tail _ (List.Mem.tail _ (List.Mem.tail _ (List.Mem.head _)))))))))))
  have f10 : 0 ≤ val 2 := h _ (List.Mem.tail _ (List.Mem.tail _ (List.Mem.tail _ (List.Mem.tail _ (List.Mem.tail _ (List.Mem.tail _ (List.Mem.tail _ (List.Mem.tail _ (List.Mem.tail _ (List.Mem.tail _ (List.Mem.head _)))))))))))
  have f11 : val 2 ≤ 150 := h _ (List.Mem.tail _ (List.Mem.tail _ (List.Mem.tail _ (List.Mem.tail _ (List.Mem.tail _ (List.Mem.tail _ (List.Mem.tail _ (List.Mem.tail _ (List.Mem.tail _ (List.Mem.tail _ (List.Mem.tail _ (List.Mem.head _))))))))))))
  have f12 : 0 ≤ val 3 := h _ (List.Mem.tail _ (List.Mem.tail _ (List.Mem.tail _ (List.Mem.tail _ (List.Mem.tail _ (List.Mem.tail _ (List.Mem.tail _ (List.Mem.tail _ (List.Mem.tail _ (List.Mem.tail _ (List.Mem.tail _ (List.Mem.tail _ (List.Mem.head _)))))))))))))
  have f13 : val 3 ≤ 150 := h _ (List.Mem.tail _ (List.Mem.tail _ (List.Mem.tail _ (List.Mem.tail _ (List.Mem.tail _ (List.Mem.tail _ (List.Mem.tail _ (List.Mem.tail _ (List.Mem.tail _ (List.Mem.tail _ (List.Mem.tail _ (List.Mem.tail _ (List.Mem.tail _ (List.Mem.head _))))))))))))))
  have hn := none_such (val := val) (by omega) (by omega) (by omega) (by omega) (by omega) (by omega) (by omega) (by omega) (by omega) (by omega)
  omega

theorem l10 {val : Nat → Int} (h : Holds val [.at (.eq (.tab T5 (.a 2)) (.tab T5 (.a 3))) false, .ge (.tab T5 (.a 3)) 0, .ge (.tab T5 (.a 2)) 0, .at (.eq (.tab T4 (.a 2)) (.tab T4 (.a 3))) true, .at (.eq (.a 2) (.a 3)) false, .at (.eq (.tab T3 (.a 2)) (.tab T3 (.a 3))) true, .le (.tab T2 (.a 2)) (-1), .at (.eq (.tab T2 (.a 2)) (.tab T2 (.a 3))) false, .at (.eq (.tab T1 (.a 2)) (.tab T1 (.a 3))) true, .at (.eq (.tab T0 (.a 2)) (.tab T0 (.a 3))) true, .ge (.a 2) 0, .le (.a 2) 150, .ge (.a 3) 0, .le (.a 3) 150]) (ht : TabOK Try.prog val sl0 tab) : Q val := leaf h ht (by kernel_rfl)

theorem l11 {val : Nat → Int} (h : Holds val [.le (.tab T5 (.a 3)) (-1), .ge (.tab T5 (.a 2)) 0, .at (.eq (.tab T4 (.a 2)) (.tab T4 (.a 3))) true, .at (.eq (.a 2) (.a 3)) false, .at (.eq (.tab T3 (.a 2)) (.tab T3 (.a 3))) true, .le (.tab T2 (.a 2)) (-1), .at (.eq (.tab T2 (.a 2)) (.tab T2 (.a 3))) false, .at (.eq (.tab T1 (.a 2)) (.tab T1 (.a 3))) true, .at (.eq (.tab T0 (.a 2)) (.tab T0 (.a 3))) true, .ge (.a 2) 0, .le (.a 2) 150, .ge (.a 3) 0, .le (.a 3) 150]) (_ : TabOK Try.prog val sl0 tab) : Q val := by
  exfalso
  have f0 : (SX.tab T5 (.a 3)).eval val ≤ (-1) := h _ (List.Mem.head _)
  have f1 : 0 ≤ (SX.tab T5 (.a 2)).eval val := h _ (List.Mem.tail _ (List.Mem.head _))
  have f2 : (SX.tab T4 (.a 2)).eval val = (SX.tab T4 (.a 3)).eval val := eq_of_beq (h _ (List.Mem.tail _ (List.Mem.tail _ (List.Mem.head _))))
  have f3 : val 2 ≠ val 3 := ne_of_beq_false (h _ (List.Mem.tail _ (List.Mem.tail _ (List.Mem.tail _ (List.Mem.head _)))))
  have f4 : (SX.tab T3 (.a 2)).eval val = (SX.tab T3 (.a 3)).eval val := eq_of_beq (h _ (List.Mem.tail _ (List.Mem.tail _ (List.Mem.tail _ (List.Mem.tail _ (List.Mem.head _))))))
  have f5 : (SX.tab T2 (.a 2)).eval val ≤ (-1) := h _ (List.Mem.tail _ (List.Mem.tail _ (List.Mem.tail _ (List.Mem.tail _ (List.Mem.tail _ (List.Mem.head _))))))
  have f6 : (SX.tab T2 (.a 2)).eval val ≠ (SX.tab T2 (.a 3)).eval val := ne_of_beq_false (h _ (List.Mem.tail _ (List.Mem.tail _ (List.Mem.tail _ (List.Mem.tail _ (List.Mem.tail _ (List.Mem.tail _ (List.Mem.head _))))))))
  have f7 : (SX.tab T1 (.a 2)).eval val = (SX.tab T1 (.a 3)).eval val := eq_of_beq (h _ (List.Mem.tail _ (List.Mem.tail _ (List.Mem.tail _ (List.Mem.tail _ (List.Mem.tail _ (List.Mem.tail _ (List.Mem.tail _ (List.Mem.head _)))))))))
  have f8 : (SX.tab T0 (.a 2)).eval val = (SX.tab T0 (.a 3)).eval val := eq_of_beq (h _ (List.Mem.tail _ (List.Mem.tail _ (List.Mem.tail _ (List.Mem.tail _ (List.Mem.tail _ (List.Mem.tail _ (List.Mem.tail _ (List.Mem.tail _ (List.Mem.head _))))))))))
  have f9 : 0 ≤ val 2 := h _ (List.Mem.tail _ (List.Mem.tail _ (List.Mem.tail _ (List.Mem.tail _ (List.Mem.tail _ (List.Mem.tail _ (List.Mem.tail _ (List.Mem.tail _ (List.Mem.tail _ (List.Mem.head _))))))))))
  have f10 : val 2 ≤ 150 := h _ (List.Mem.tail _ (List.Mem.tail _ (List.Mem.tail _ (List.Mem.tail _ (List.Mem.tail _ (List.Mem.tail _ (List.Mem.tail _ (List.Mem.tail _ (List.Mem.tail _ (List.Mem.tail _ (List.Mem.head _)))))))))))
  have f11 : 0 ≤ val 3 := h _ (List.Mem.tail _ (List.Mem.tail _ (List.Mem.tail _ (List.Mem.tail _ (List.Mem.tail _ (List.Mem.tail _ (List.Mem.tail _ (List.Mem.tail _ (List.Mem.tail _ (List.Mem.tail _ (List.Mem.tail _ (List.Mem.head _))))))))))))
  have f12 : val 3 ≤ 150 := h _ (List.Mem.tail _ (List.Mem.tail _ (List.Mem.tail _ (List.Mem.tail _ (List.Mem.tail _ (List.Mem.tail _ (List.Mem.tail _ (List.Mem.tail _ (List.Mem.tail _ (List.Mem.tail _ (List.Mem.tail _ (List.Mem.tail _ (List.Mem.head _)))))))))))))
  have hn := none_such (val := val) (by omega) (by omega) (by omega) (by omega) (by omega) (by omega) (by omega) (by omega) (by omega) (by omega)
  omega

theorem l12 {val : Nat → Int} (h : Holds val [.le (.tab T5 (.a 2)) (-1), .at (.eq (.tab T4 (.a 2)) (.tab T4 (.a 3))) true, .at (.eq (.a 2) (.a 3)) false, .at (.eq (.tab T3 (.a 2)) (.tab T3 (.a 3))) true, .le (.tab T2 (.a 2)) (-1), .at (.eq (.tab T2 (.a 2)) (.tab T2 (.a 3))) false, .at (.eq (.tab T1 (.a 2)) (.tab T1 (.a 3))) true, .at (.eq (.tab T0 (.a 2)) (.tab T0 (.a 3))) true, .ge (.a 2) 0, .le (.a 2) 150, .ge (.a 3) 0, .le (.a 3) 150]) (_ : TabOK Try.prog val sl0 tab) : Q val := by
  exfalso
  have f0 : (SX.tab T5 (.a 2)).eval val ≤ (-1) := h _ (List.Mem.head _)
  have f1 : (SX.tab T4 (.a 2)).eval val = (SX.tab T4 (.a 3)).eval val := eq_of_beq (h _ (List.Mem.tail _ (List.Mem.head _)))
  have f2 : val 2 ≠ val 3 := ne_of_beq_false (h _ (List.Mem.tail _ (List.Mem.tail _ (List.Mem.head _))))
  have f3 : (SX.tab T3 (.a 2)).eval val = (SX.tab T3 (.a 3)).eval val := eq_of_beq (h _ (List.Mem.tail _ (List.Mem.tail _ (List.Mem.tail _ (List.Mem.head _)))))
  have f4 : (SX.tab T2 (.a 2)).eval val ≤ (-1) := h _ (List.Mem.tail _ (List.Mem.tail _ (List.Mem.tail _ (List.Mem.tail _ (List.Mem.head _)))))
  have f5 : (SX.tab T2 (.a 2)).eval val ≠ (SX.tab T2 (.a 3)).eval val := ne_of_beq_false (h _ (List.Mem.tail _ (List.Mem.tail _ (List.Mem.tail _ (List.Mem.tail _ (List.Mem.tail _ (List.Mem.head _)))))))
  have f6 : (SX.tab T1 (.a 2)).eval val = (SX.tab T1 (.a 3)).eval val := eq_of_beq (h _ (List.Mem.tail _ (List.Mem.tail _ (List.Mem.tail _ (List.Mem.tail _ (List.Mem.tail _ (List.Mem.tail _ (List.Mem.head _))))))))
  have f7 : (SX.tab T0 (.a 2)).eval val = (SX.tab T0 (.a 3)).eval val := eq_of_beq (h _ (List.Mem.tail _ (List.Mem.tail _ (List.Mem.tail _ (List.Mem.tail _ (List.Mem.tail _ (List.Mem.tail _ (List.Mem.tail _ (List.Mem.head _)))))))))
  have f8 : 0 ≤ val 2 := h _ (List.Mem.tail _ (List.Mem.tail _ (List.Mem.tail _ (List.Mem.tail _ (List.Mem.tail _ (List.Mem.tail _ (List.Mem.tail _ (List.Mem.tail _ (List.Mem.head _)))))))))
  have f9 : val 2 ≤ 150 := h _ (List.Mem.tail _ (List.Mem.tail _ (List.Mem.tail _ (List.Mem.tail _ (List.Mem.tail _ (List.Mem.tail _ (List.Mem.tail _ (List.Mem.tail _ (List.Mem.tail _ (List.Mem.head _))))))))))
  have f10 : 0 ≤ val 3 := h _ (List.Mem.tail _ (List.Mem.tail _ (List.Mem.tail _ (List.Mem.tail _ (List.Mem.tail _ (List.Mem.tail _ (List.Mem.tail _ (List.Mem.tail _ (List.Mem.tail _ (List.Mem.tail _ (List.Mem.head _)))))))))))
  have f11 : val 3 ≤ 150 := h _ (List.Mem.tail _ (List.Mem.tail _ (List.Mem.tail _ (List.Mem.tail _ (List.Mem.tail _ (List.Mem.tail _ (List.Mem.tail _ (List.Mem.tail _ (List.Mem.tail _ (List.Mem.tail _ (List.Mem.tail _ (List.Mem.head _))))))))))))
  have hn := none_such (val := val) (by omega) (by omega) (by omega) (by omega) (by omega) (by omega) (by omega) (by omega) (by omega) (by omega)
  omega

theorem l13 {val : Nat → Int} (h : Holds val [.at (.eq (.tab T4 (.a 2)) (.tab T4 (.a 3))) false, .at (.eq (.a 2) (.a 3)) false, .at (.eq (.tab T3 (.a 2)) (.tab T3 (.a 3))) true, .le (.tab T2 (.a 2)) (-1), .at (.eq (.tab T2 (.a 2)) (.tab T2 (.a 3))) false, .at (.eq (.tab T1 (.a 2)) (.tab T1 (.a 3))) true, .at (.eq (.tab T0 (.a 2)) (.tab T0 (.a 3))) true, .ge (.a 2) 0, .le (.a 2) 150, .ge (.a 3) 0, .le (.a 3) 150]) (ht : TabOK Try.prog val sl0 tab) : Q val := leaf h ht (by kernel_rfl)

theorem l14 {val : Nat → Int} (h : Holds val [.at (.eq (.a 2) (.a 3)) true, .at (.eq (.tab T3 (.a 2)) (.tab T3 (.a 3))) false, .le (.tab T2 (.a 2)) (-1), .at (.eq (.tab T2 (.a 2)) (.tab T2 (.a 3))) false, .at (.eq (.tab T1 (.a 2)) (.tab T1 (.a 3))) true, .at (.eq (.tab T0 (.a 2)) (.tab T0 (.a 3))) true, .ge (.a 2) 0, .le (.a 2) 150, .ge (.a 3) 0, .le (.a 3) 150]) (ht : TabOK Try.prog val sl0 tab) : Q val := leaf h ht (by kernel_rfl)

theorem l15 {val : Nat → Int} (h : Holds val [.at (.eq (.a 2) (.a 3)) false, .at (.eq (.tab T3 (.a 2)) (.tab T3 (.a 3))) false, .le (.tab T2 (.a 2)) (-1), .at (.eq (.tab T2 (.a 2)) (.tab T2 (.a 3))) false, .at (.eq (.tab T1 (.a 2)) (.tab T1 (.a 3))) true, .at (.eq (.tab T0 (.a 2)) (.tab T0 (.a 3))) true, .ge (.a 2) 0, .le (.a 2) 150, .ge (.a 3) 0, .le (.a 3) 150]) (ht : TabOK Try.prog val sl0 tab) : Q val := leaf h ht (by kernel_rfl)

theorem l16 {val : Nat → Int} (h : Holds val [.at (.eq (.a 2) (.a 3)) true, .at (.eq (.tab T3 (.a 2)) (.tab T3 (.a 3))) true, .le (.tab T2 (.a 3)) (-1), .ge (.tab T2 (.a 2)) 0, .at (.eq (.tab T2 (.a 2)) (.tab T2 (.a 3))) false, .at (.eq (.tab T1 (.a 2)) (.tab T1 (.a 3))) true, .at (.eq (.tab T0 (.a 2)) (.tab T0 (.a 3))) true, .ge (.a 2) 0, .le (.a 2) 150, .ge (.a 3) 0, .le (.a 3) 150]) (ht : TabOK Try.prog val sl0 tab) : Q val := leaf h ht (by kernel_rfl)

theorem l17 {val : Nat → Int} (h : Holds val [.at (.eq (.tab T5 (.a 2)) (.tab T5 (.a 3))) true, .ge (.tab T5 (.a 3)) 0, .ge (.tab T5 (.a 2)) 0, .at (.eq (.tab T4 (.a 2)) (.tab T4 (.a 3))) true, .at (.eq (.a 2) (.a 3)) false, .at (.eq (.tab T3 (.a 2)) (.tab T3 (.a 3))) true, .le (.tab T2 (.a 3)) (-1), .ge (.tab T2 (.a 2)) 0, .at (.eq (.tab T2 (.a 2)) (.tab T2 (.a 3))) false, .at (.eq (.tab T1 (.a 2)) (.tab T1 (.a 3))) true, .at (.eq (.tab T0 (.a 2)) (.tab T0 (.a 3))) true, .ge (.a 2) 0, .le (.a 2) 150, .ge (.a 3) 0, .le (.a 3) 150]) (_ : TabOK Try.prog val sl0 tab) : Q val := by
  exfalso
  have f0 : (SX.tab T5 (.a 2)).eval val = (SX.tab T5 (.a 3)).eval val := eq_of_beq (h _ (List.Mem.head _))
  have f1 : 0 ≤ (SX.tab T5 (.a 3)).eval val := h _ (List.Mem.tail _ (List.Mem.head _))
  have f2 : 0 ≤ (SX.tab T5 (.a 2)).eval val := h _ (List.Mem.tail _ (List.Mem.tail _ (List.Mem.head _)))
  have f3 : (SX.tab T4 (.a 2)).eval val = (SX.tab T4 (.a 3)).eval val := eq_of_beq (h _ (List.Mem.tail _ (List.Mem.tail _ (List.Mem.tail _ (List.Mem.head _)))))
  have f4 : val 2 ≠ val 3 := ne_of_beq_false (h _ (List.Mem.tail _ (List.Mem.tail _ (List.Mem.tail _ (List.Mem.tail _ (List.Mem.head _))))))
  have f5 : (SX.tab T3 (.a 2)).eval val = (SX.tab T3 (.a 3)).eval val := eq_of_beq (h _ (List.Mem.tail _ (List.Mem.tail _ (List.Mem.tail _ (List.Mem.tail _ (List.Mem.tail _ (List.Mem.head _)))))))
  have f6 : (SX.tab T2 (.a 3)).eval val ≤ (-1) := h _ (List.Mem.tail _ (List.Mem.tail _ (List.Mem.tail _ (List.Mem.tail _ (List.Mem.tail _ (List.Mem.tail _ (List.Mem.head _)))))))
  have f7 : 0 ≤ (SX.tab T2 (.a 2)).eval val := h _ (List.Mem.tail _ (List.Mem.tail _ (List.Mem.tail _ (List.Mem.tail _ (List.Mem.tail _ (List.Mem.tail _ (List.Mem.tail _ (List.Mem.head _))))))))
  have f8 : (SX.tab T2 (.a 2)).eval val ≠ (SX.tab T2 (.a 3)).eval val := ne_of_beq_false (h _ (List.Mem.tail _ (List.Mem.tail _ (List.Mem.tail _ (List.Mem.tail _ (List.Mem.tail _ (List.Mem.tail _ (List.Mem.tail _ (List.Mem.tail _ (List.Mem.head _))))))))))
  have f9 : (SX.tab T1 (.a 2)).eval val = (SX.tab T1 (.a 3)).eval val := eq_of_beq (h _ (List.Mem.tail _ (List.Mem.tail _ (List.Mem.tail _ (List.Mem.tail _ (List.Mem.tail _ (List.Mem.tail _ (List.Mem.tail _ (List.Mem.tail _ (List.Mem.tail _ (List.Mem.head _)))))))))))
  have f10 : (SX.tab T0 (.a 2)).eval val = (SX.tab T0 (.a 3)).eval val := eq_of_beq (h _ (List.Mem.tail _ (List.Mem.tail _ (List.Mem.tail _ (List.Mem.tail _ (List.Mem.tail _ (List.Mem.tail _ (List.Mem.tail _ (List.Mem.tail _ (List.Mem.tail _ (List.Mem.tail _ (List.Mem.head _))))))))))))
  have f11 : 0 ≤ val 2 := h _ (List.Mem.tail _ (List.Mem.tail _ (List.Mem.tail _ (List.Mem.tail _ (List.Mem.tail _ (List.Mem.tail _ (List.Mem.tail _ (List.Mem.tail _ (List.Mem.tail _ (List.Mem.tail _ (List.Mem.tail _ (List.Mem.head _))))))))))))
  have f12 : val 2 ≤ 150 := h _ (List.Mem.tail _ (List.Mem.tail _ (List.Mem.tail _ (List.Mem.tail _ (List.Mem.tail _ (List.Mem.tail _ (List.Mem.tail _ (List.Mem.tail _ (List.Mem.tail _ (List.Mem.tail _ (List.Mem.tail _ (List.Mem.tail _ (List.Mem.head _)))))))))))))
  have f13 : 0 ≤ val 3 := h _ (List.Mem.tail _ (List.Mem.tail _ (List.Mem.tail _ (List.Mem.tail _ (List.Mem.tail _ (List.Mem.tail _ (List.Mem.tail _ (List.Mem.tail _ (List.Mem.tail _ (List.Mem.tail _ (List.Mem.tail _ (List.Mem.tail _ (List.Mem.tail _ (List.Mem.head _))))))))))))))
  have f14 : val 3 ≤ 150 := h _ (List.Mem.tail _ (List.Mem.tail _ (List.Mem.tail _ (List.Mem.tail _ (List.Mem.tail _ (List.Mem.tail _ (List.Mem.tail _ (List.Mem.tail _ (List.Mem.tail _ (List.Mem.tail _ (List.Mem.tail _ (List.Mem.tail _ (List.Mem.tail _ (List.Mem.tail _ (List.Mem.head _)))))))))))))))
  have hn := none_such (val := val) (by omega) (by omega) (by omega) (by omega) (by omega) (by omega) (by omega) (by omega) (by omega) (by omega)
  omega

theorem l18 {val : Nat → Int} (h : Holds val [.at (.eq (.tab T5 (.a 2)) (.tab T5 (.a 3))) false, .ge (.tab T5 (.a 3)) 0, .ge (.tab T5 (.a 2)) 0, .at (.eq (.tab T4 (.a 2)) (.tab T4 (.a 3))) true, .at (.eq (.a 2) (.a 3)) false, .at (.eq (.tab T3 (.a 2)) (.tab T3 (.a 3))) true, .le (.tab T2 (.a 3)) (-1), .ge (.tab T2 (.a 2)) 0, .at (.eq (.tab T2 (.a 2)) (.tab T2 (.a 3))) false, .at (.eq (.tab T1 (.a 2)) (.tab T1 (.a 3))) true, .at (.eq (.tab T0 (.a 2)) (.tab T0 (.a 3))) true, .ge (.a 2) 0, .le (.a 2) 150, .ge (.a 3) 0, .le (.a 3) 150]) (ht : TabOK Try.prog val sl0 tab) : Q val := leaf h ht (by kernel_rfl)

theorem l19 {val : Nat → Int} (h : Holds val [.le (.tab T5 (.a 3)) (-1), .ge (.tab T5 (.a 2)) 0, .at (.eq (.tab T4 (.a 2)) (.tab T4 (.a 3))) true, .at (.eq (.a 2) (.a 3)) false, .at (.eq (.tab T3 (.a 2)) (.tab T3 (.a 3))) true, .le (.tab T2 (.a 3)) (-1), .ge (.tab T2 (.a 2)) 0, .at (.eq (.tab T2 (.a 2)) (.tab T2 (.a 3))) false, .at (.eq (.tab T1 (.a 2)) (.tab T1 (.a 3))) true, .at (.eq (.tab T0 (.a 2)) (.tab T0 (.a 3))) true, .ge (.a 2) 0, .le (.a 2) 150, .ge (.a 3) 0, .le (.a 3) 150]) (_ : TabOK Try.prog val sl0 tab) : Q val := by
  exfalso
  have f0 : (SX.tab T5 (.a 3)).eval val ≤ (-1) := h _ (List.Mem.head _)
  have f1 : 0 ≤ (SX.tab T5 (.a 2)).eval val := h _ (List.Mem.tail _ (List.Mem.head _))
  have f2 : (SX.tab T4 (.a 2)).eval val = (SX.tab T4 (.a 3)).eval val := eq_of_beq (h _ (List.Mem.tail _ (List.Mem.tail _ (List.Mem.head _))))
  have f3 : val 2 ≠ val 3 := ne_of_beq_false (h _ (List.Mem.tail _ (List.Mem.tail _ (List.Mem.tail _ (List.Mem.head _)))))
  have f4 : (SX.tab T3 (.a 2)).eval val = (SX.tab T3 (.a 3)).eval val := eq_of_beq (h _ (List.Mem.tail _ (List.Mem.tail _ (List.Mem.tail _ (List.Mem.tail _ (List.Mem.head _))))))
  have f5 : (SX.tab T2 (.a 3)).eval val ≤ (-1) := h _ (List.Mem.tail _ (List.Mem.tail _ (List.Mem.tail _ (List.Mem.tail _ (List.Mem.tail _ (List.Mem.head _))))))
  have f6 : 0 ≤ (SX.tab T2 (.a 2)).eval val := h _ (List.Mem.tail _ (List.Mem.tail _ (List.Mem.tail _ (List.Mem.tail _ (List.Mem.tail _ (List.Mem.tail _ (List.Mem.head _)))))))
  have f7 : (SX.tab T2 (.a 2)).eval val ≠ (SX.tab T2 (.a 3)).eval val := ne_of_beq_false (h _ (List.Mem.tail _ (List.Mem.tail _ (List.Mem.tail _ (List.Mem.tail _ (List.Mem.tail _ (List.Mem.tail _ (List.Mem.tail _ (List.Mem.head _)))))))))
  have f8 : (SX.tab T1 (.a 2)).eval val = (SX.tab T1 (.a 3)).eval val := eq_of_beq (h _ (List.Mem.tail _ (List.Mem.tail _ (List.Mem.tail _ (List.Mem.tail _ (List.Mem.tail _ (List.Mem.tail _ (List.Mem.tail _ (List.Mem.tail _ (List.Mem.head _))))))))))
  have f9 : (SX.tab T0 (.a 2)).eval val = (SX.tab T0 (.a 3)).eval val := eq_of_beq (h _ (List.Mem.tail _ (List.Mem.tail _ (List.Mem.tail _ (List.Mem.tail _ (List.Mem.tail _ (List.Mem.tail _ (List.Mem.tail _ (List.Mem.tail _ (List.Mem.tail _ (List.Mem.head _)))))))))))
  have f10 : 0 ≤ val 2 := h _ (List.Mem.tail _ (List.Mem.tail _ (List.Mem.tail _ (List.Mem.tail _ (List.Mem.tail _ (List.Mem.tail _ (List.Mem.tail _ (List.Mem.tail _ (List.Mem.tail _ (List.Mem.tail _ (List.Mem.head _)))))))))))
  have f11 : val 2 ≤ 150 := h _ (List.Mem.tail _ (List.Mem.tail _ (List.Mem.tail _ (List.Mem.tail _ (List.Mem.tail _ (List.Mem.tail _ (List.Mem.tail _ (List.Mem.tail _ (List.Mem.tail _ (List.Mem.tail _ (List.Mem.tail _ (List.Mem.head _))))))))))))
  have f12 : 0 ≤ val 3 := h _ (List.Mem.tail _ (List.Mem.tail _ (List.Mem.tail _ (List.Mem.tail _ (List.Mem.tail _ (List.Mem.tail _ (List.Mem.tail _ (List.Mem.tail _ (List.Mem.tail _ (List.Mem.tail _ (List.Mem.tail _ (List.Mem.tail _ (List.Mem.head _)))))))))))))
  have f13 : val 3 ≤ 150 := h _ (List.Mem.tail _ (List.Mem.tail _ (List.Mem.tail _ (List.Mem.tail _ (List.Mem.tail _ (List.Mem.tail _ (List.Mem.tail _ (List.Mem.tail _ (List.Mem.tail _ (List.Mem.tail _ (List.Mem.tail _ (List.Mem.tail _ (List.Mem.tail _ (List.Mem.head _))))))))))))))
  have hn := none_such (val := val) (by omega) (by omega) (by omega) (by omega) (by omega) (by omega) (by omega) (by omega) (by omega) (by omega)
  omega

theorem l20 {val : Nat → Int} (h : Holds val [.le (.tab T5 (.a 2)) (-1), .at (.eq (.tab T4 (.a 2)) (.tab T4 (.a 3))) true, .at (.eq (.a 2) (.a 3)) false, .at (.eq (.tab T3 (.a 2)) (.tab T3 (.a 3))) true, .le (.tab T2 (.a 3)) (-1), .ge (.tab T2 (.a 2)) 0, .at (.eq (.tab T2 (.a 2)) (.tab T2 (.a 3))) false, .at (.eq (.tab T1 (.a 2)) (.tab T1 (.a 3))) true, .at (.eq (.tab T0 (.a 2)) (.tab T0 (.a 3))) true, .ge (.a 2) 0, .le (.a 2) 150, .ge (.a 3) 0, .le (.a 3) 150]) (_ : TabOK Try.prog val sl0 tab) : Q val := by
  exfalso
  have f0 : (SX.tab T5 (.a 2)).eval val ≤ (-1) := h _ (List.Mem.head _)
  have f1 : (SX.tab T4 (.a 2)).eval val = (SX.tab T4 (.a 3)).eval val := eq_of_beq (h _ (List.Mem.tail _ (List.Mem.head _)))
  have f2 : val 2 ≠ val 3 := ne_of_beq_false (h _ (List.Mem.tail _ (List.Mem.tail _ (List.Mem.head _))))
  have f3 : (SX.tab T3 (.a 2)).eval val = (SX.tab T3 (.a 3)).eval val := eq_of_beq (h _ (List.Mem.tail _ (List.Mem.tail _ (List.Mem.tail _ (List.Mem.head _)))))
  have f4 : (SX.tab T2 (.a 3)).eval val ≤ (-1) := h _ (List.Mem.tail _ (List.Mem.tail _ (List.Mem.tail _ (List.Mem.tail _ (List.Mem.head _)))))
  have f5 : 0 ≤ (SX.tab T2 (.a 2)).eval val := h _ (List.Mem.tail _ (List.Mem.tail _ (List.Mem.tail _ (List.Mem.tail _ (List.Mem.tail _ (List.Mem.head _))))))
  have f6 : (SX.tab T2 (.a 2)).eval val ≠ (SX.tab T2 (.a 3)).eval val := ne_of_beq_false (h _ (List.Mem.tail _ (List.Mem.tail _ (List.Mem.tail _ (List.Mem.tail _ (List.Mem.tail _ (List.Mem.tail _ (List.Mem.head _))))))))
  have f7 : (SX.tab T1 (.a 2)).eval val = (SX.tab T1 (.a 3)).eval val := eq_of_beq (h _ (List.Mem.tail _ (List.Mem.tail _ (List.Mem.tail _ (List.Mem.tail _ (List.Mem.tail _ (List.Mem.tail _ (List.Mem.tail _ (List.Mem.head _)))))))))
  have f8 : (SX.tab T0 (.a 2)).eval val = (SX.tab T0 (.a 3)).eval val := eq_of_beq (h _ (List.Mem.tail _ (List.Mem.tail _ (List.Mem.tail _ (List.Mem.tail _ (List.Mem.tail _ (List.Mem.tail _ (List.Mem.tail _ (List.Mem.tail _ (List.Mem.head _))))))))))
  have f9 : 0 ≤ val 2 := h _ (List.Mem.tail _ (List.Mem.tail _ (List.Mem.tail _ (List.Mem.tail _ (List.Mem.tail _ (List.Mem.tail _ (List.Mem.tail _ (List.Mem.tail _ (List.Mem.tail _ (List.Mem.head _))))))))))
  have f10 : val 2 ≤ 150 := h _ (List.Mem.tail _ (List.Mem.tail _ (List.Mem.tail _ (List.Mem.tail _ (List.Mem.tail _ (List.Mem.tail _ (List.Mem.tail _ (List.Mem.tail _ (List.Mem.tail _ (List.Mem.tail _ (List.Mem.head _)))))))))))
  have f11 : 0 ≤ val 3 := h _ (List.Mem.tail _ (List.Mem.tail _ (List.Mem.tail _ (List.Mem.tail _ (List.Mem.tail _ (List.Mem.tail _ (List.Mem.tail _ (List.Mem.tail _ (List.Mem.tail _ (List.Mem.tail _ (List.Mem.tail _ (List.Mem.head _))))))))))))
  have f12 : val 3 ≤ 150 := h _ (List.Mem.tail _ (List.Mem.tail _ (List.Mem.tail _ (List.Mem.tail _ (List.Mem.tail _ (List.Mem.tail _ (List.Mem.tail _ (List.Mem.tail _ (List.Mem.tail _ (List.Mem.tail _ (List.Mem.tail _ (List.Mem.tail _ (List.Mem.head _)))))))))))))
  have hn := none_such (val := val) (by omega) (by omega) (by omega) (by omega) (by omega) (by omega) (by omega) (by omega) (by omega) (by omega)
  omega

theorem l21 {val : Nat → Int} (h : Holds val [.at (.eq (.tab T4 (.a 2)) (.tab T4 (.a 3))) false, .at (.eq (.a 2) (.a 3)) false, .at (.eq (.tab T3 (.a 2)) (.tab T3 (.a 3))) true, .le (.tab T2 (.a 3)) (-1), .ge (.tab T2 (.a 2)) 0, .at (.eq (.tab T2 (.a 2)) (.tab T2 (.a 3))) false, .at (.eq (.tab T1 (.a 2)) (.tab T1 (.a 3))) true, .at (.eq (.tab T0 (.a 2)) (.tab T0 (.a 3))) true, .ge (.a 2) 0, .le (.a 2) 150, .ge (.a 3) 0, .le (.a 3) 150]) (ht : TabOK Try.prog val sl0 tab) : Q val := leaf h ht (by kernel_rfl)

theorem l22 {val : Nat → Int} (h : Holds val [.at (.eq (.a 2) (.a 3)) true, .at (.eq (.tab T3 (.a 2)) (.tab T3 (.a 3))) false, .le (.tab T2 (.a 3)) (-1), .ge (.tab T2 (.a 2)) 0, .at (.eq (.tab T2 (.a 2)) (.tab T2 (.a 3))) false, .at (.eq (.tab T1 (.a 2)) (.tab T1 (.a 3))) true, .at (.eq (.tab T0 (.a 2)) (.tab T0 (.a 3))) true, .ge (.a 2) 0, .le (.a 2) 150, .ge (.a 3) 0, .le (.a 3) 150]) (ht : TabOK Try.prog val sl0 tab) : Q val := leaf h ht (by kernel_rfl)

theorem l23 {val : Nat → Int} (h : Holds val [.at (.eq (.a 2) (.a 3)) false, .at (.eq (.tab T3 (.a 2)) (.tab T3 (.a 3))) false, .le (.tab T2 (.a 3)) (-1), .ge (.tab T2 (.a 2)) 0, .at (.eq (.tab T2 (.a 2)) (.tab T2 (.a 3))) false, .at (.eq (.tab T1 (.a 2)) (.tab T1 (.a 3))) true, .at (.eq (.tab T0 (.a 2)) (.tab T0 (.a 3))) true, .ge (.a 2) 0, .le (.a 2) 150, .ge (.a 3) 0, .le (.a 3) 150]) (ht : TabOK Try.prog val sl0 tab) : Q val := leaf h ht (by kernel_rfl)

theorem l24 {val : Nat → Int} (h : Holds val [.at (.eq (.a 2) (.a 3)) true, .ge (.tab T2 (.a 3)) 0, .ge (.tab T2 (.a 2)) 0, .at (.eq (.tab T2 (.a 2)) (.tab T2 (.a 3))) false, .at (.eq (.tab T1 (.a 2)) (.tab T1 (.a 3))) true, .at (.eq (.tab T0 (.a 2)) (.tab T0 (.a 3))) true, .ge (.a 2) 0, .le (.a 2) 150, .ge (.a 3) 0, .le (.a 3) 150]) (ht : TabOK Try.prog val sl0 tab) : Q val := leaf h ht (by kernel_rfl)

theorem l25 {val : Nat → Int} (h : Holds val [.at (.eq (.a 2) (.a 3)) false, .ge (.tab T2 (.a 3)) 0, .ge (.tab T2 (.a 2)) 0, .at (.eq (.tab T2 (.a 2)) (.tab T2 (.a 3))) false, .at (.eq (.tab T1 (.a 2)) (.tab T1 (.a 3))) true, .at (.eq (.tab T0 (.a 2)) (.tab T0 (.a 3))) true, .ge (.a 2) 0, .le (.a 2) 150, .ge (.a 3) 0, .le (.a 3) 150]) (ht : TabOK Try.prog val sl0 tab) : Q val := leaf h ht (by kernel_rfl)

theorem l26 {val : Nat → Int} (h : Holds val [.at (.eq (.a 2) (.a 3)) true, .at (.eq (.tab T1 (.a 2)) (.tab T1 (.a 3))) false, .at (.eq (.tab T0 (.a 2)) (.tab T0 (.a 3))) true, .ge (.a 2) 0, .le (.a 2) 150, .ge (.a 3) 0, .le (.a 3) 150]) (ht : TabOK Try.prog val sl0 tab) : Q val := leaf h ht (by kernel_rfl)

theorem l27 {val : Nat → Int} (h : Holds val [.at (.eq (.a 2) (.a 3)) false, .at (.eq (.tab T1 (.a 2)) (.tab T1 (.a 3))) false, .at (.eq (.tab T0 (.a 2)) (.tab T0 (.a 3))) true, .ge (.a 2) 0, .le (.a 2) 150, .ge (.a 3) 0, .le (.a 3) 150]) (ht : TabOK Try.prog val sl0 tab) : Q val := leaf h ht (by kernel_rfl)

theorem l28 {val : Nat → Int} (h : Holds val [.at (.eq (.a 2) (.a 3)) true, .at (.eq (.tab T0 (.a 2)) (.tab T0 (.a 3))) false, .ge (.a 2) 0, .le (.a 2) 150, .ge (.a 3) 0, .le (.a 3) 150]) (ht : TabOK Try.prog val sl0 tab) : Q val := leaf h ht (by kernel_rfl)

theorem l29 {val : Nat → Int} (h : Holds val [.at (.eq (.a 2) (.a 3)) false, .at (.eq (.tab T0 (.a 2)) (.tab T0 (.a 3))) false, .ge (.a 2) 0, .le (.a 2) 150, .ge (.a 3) 0, .le (.a 3) 150]) (ht : TabOK Try.prog val sl0 tab) : Q val := leaf h ht (by kernel_rfl)

theorem apart {val : Nat → Int} (h0 : Holds val [.ge (.a 2) 0, .le (.a 2) 150, .ge (.a 3) 0, .le (.a 3) 150]) (ht : TabOK Try.prog val sl0 tab) : Q val := (by_way (.eq (.tab T0 (.a 2)) (.tab T0 (.a 3))) (.at (.eq (.tab T0 (.a 2)) (.tab T0 (.a 3))) true) (.at (.eq (.tab T0 (.a 2)) (.tab T0 (.a 3))) false) rfl rfl h0 (fun h1 => (by_way (.eq (.tab T1 (.a 2)) (.tab T1 (.a 3))) (.at (.eq (.tab T1 (.a 2)) (.tab T1 (.a 3))) true) (.at (.eq (.tab T1 (.a 2)) (.tab T1 (.a 3))) false) rfl rfl h1 (fun h2 => (by_way (.eq (.tab T2 (.a 2)) (.tab T2 (.a 3))) (.at (.eq (.tab T2 (.a 2)) (.tab T2 (.a 3))) true) (.at (.eq (.tab T2 (.a 2)) (.tab T2 (.a 3))) false) rfl rfl h2 (fun h3 => (by_way (.eq (.tab T3 (.a 2)) (.tab T3 (.a 3))) (.at (.eq (.tab T3 (.a 2)) (.tab T3 (.a 3))) true) (.at (.eq (.tab T3 (.a 2)) (.tab T3 (.a 3))) false) rfl rfl h3 (fun h4 => (by_way (.eq (.a 2) (.a 3)) (.at (.eq (.a 2) (.a 3)) true) (.at (.eq (.a 2) (.a 3)) false) rfl rfl h4 (fun h5 => (l0 h5 ht)) (fun h5 => (by_way (.eq (.tab T4 (.a 2)) (.tab T4 (.a 3))) (.at (.eq (.tab T4 (.a 2)) (.tab T4 (.a 3))) true) (.at (.eq (.tab T4 (.a 2)) (.tab T4 (.a 3))) false) rfl rfl h5 (fun h6 => (by_way (.le (.c 0) (.tab T5 (.a 2))) (.ge (.tab T5 (.a 2)) 0) (.le (.tab T5 (.a 2)) (-1)) rfl rfl h6 (fun h7 => (by_way (.le (.c 0) (.tab T5 (.a 3))) (.ge (.tab T5 (.a 3)) 0) (.le (.tab T5 (.a 3)) (-1)) rfl rfl h7 (fun h8 => (by_way (.eq (.tab T5 (.a 2)) (.tab T5 (.a 3))) (.at (.eq (.tab T5 (.a 2)) (.tab T5 (.a 3))) true) (.at (.eq (.tab T5 (.a 2)) (.tab T5 (.a 3))) false) rfl rfl h8 (fun h9 => (l1 h9 ht)) (fun h9 => (l2 h9 ht)))) (fun h8 => (l3 h8 ht)))) (fun h7 => (l4 h7 ht)))) (fun h6 => (l5 h6 ht)))))) (fun h4 => (by_way (.eq (.a 2) (.a 3)) (.at (.eq (.a 2) (.a 3)) true) (.at (.eq (.a 2) (.a 3)) false) rfl rfl h4 (fun h5 => (l6 h5 ht)) (fun h5 => (l7 h5 ht)))))) (fun h3 => (by_way (.lt (.tab T2 (.a 2)) (.c 0)) (.le (.tab T2 (.a 2)) (-1)) (.ge (.tab T2 (.a 2)) 0) rfl rfl h3 (fun h4 => (by_way (.eq (.tab T3 (.a 2)) (.tab T3 (.a 3))) (.at (.eq (.tab T3 (.a 2)) (.tab T3 (.a 3))) true) (.at (.eq (.tab T3 (.a 2)) (.tab T3 (.a 3))) false) rfl rfl h4 (fun h5 => (by_way (.eq (.a 2) (.a 3)) (.at (.eq (.a 2) (.a 3)) true) (.at (.eq (.a 2) (.a 3)) false) rfl rfl h5 (fun h6 => (l8 h6 ht)) (fun h6 => (by_way (.eq (.tab T4 (.a 2)) (.tab T4 (.a 3))) (.at (.eq (.tab T4 (.a 2)) (.tab T4 (.a 3))) true) (.at (.eq (.tab T4 (.a 2)) (.tab T4 (.a 3))) false) rfl rfl h6 (fun h7 => (by_way (.le (.c 0) (.tab T5 (.a 2))) (.ge (.tab T5 (.a 2)) 0) (.le (.tab T5 (.a 2)) (-1)) rfl rfl h7 (fun h8 => (by_way (.le (.c 0) (.tab T5 (.a 3))) (.ge (.tab T5 (.a 3)) 0) (.le (.tab T5 (.a 3)) (-1)) rfl rfl h8 (fun h9 => (by_way (.eq (.tab T5 (.a 2)) (.tab T5 (.a 3))) (.at (.eq (.tab T5 (.a 2)) (.tab T5 (.a 3))) true) (.at (.eq (.tab T5 (.a 2)) (.tab T5 (.a 3))) false) rfl rfl h9 (fun h10 => (l9 h10 ht)) (fun h10 => (l10 h10 ht)))) (fun h9 => (l11 h9 ht)))) (fun h8 => (l12 h8 ht)))) (fun h7 => (l13 h7 ht)))))) (fun h5 => (by_way (.eq (.a 2) (.a 3)) (.at (.eq (.a 2) (.a 3)) true) (.at (.eq (.a 2) (.a 3)) false) rfl rfl h5 (fun h6 => (l14 h6 ht)) (fun h6 => (l15 h6 ht)))))) (fun h4 => (by_way (.lt (.tab T2 (.a 3)) (.c 0)) (.le (.tab T2 (.a 3)) (-1)) (.ge (.tab T2 (.a 3)) 0) rfl rfl h4 (fun h5 => (by_way (.eq (.tab T3 (.a 2)) (.tab T3 (.a 3))) (.at (.eq (.tab T3 (.a 2)) (.tab T3 (.a 3))) true) (.at (.eq (.tab T3 (.a 2)) (.tab T3 (.a 3))) false) rfl rfl h5 (fun h6 => (by_way (.eq (.a 2) (.a 3)) (.at (.eq (.a 2) (.a 3)) true) (.at (.eq (.a 2) (.a 3)) false) rfl rfl h6 (fun h7 => (l16 h7 ht)) (fun h7 => (by_way (.eq (.tab T4 (.a 2)) (.tab T4 (.a 3))) (.at (.eq (.tab T4 (.a 2)) (.tab T4 (.a 3))) true) (.at (.eq (.tab T4 (.a 2)) (.tab T4 (.a 3))) false) rfl rfl h7 (fun h8 => (by_way (.le (.c 0) (.tab T5 (.a 2))) (.ge (.tab T5 (.a 2)) 0) (.le (.tab T5 (.a 2)) (-1)) rfl rfl h8 (fun h9 => (by_way (.le (.c 0) (.tab T5 (.a 3))) (.ge (.tab T5 (.a 3)) 0) (.le (.tab T5 (.a 3)) (-1)) rfl rfl h9 (fun h10 => (by_way (.eq (.tab T5 (.a 2)) (.tab T5 (.a 3))) (.at (.eq (.tab T5 (.a 2)) (.tab T5 (.a 3))) true) (.at (.eq (.tab T5 (.a 2)) (.tab T5 (.a 3))) false) rfl rfl h10 (fun h11 => (l17 h11 ht)) (fun h11 => (l18 h11 ht)))) (fun h10 => (l19 h10 ht)))) (fun h9 => (l20 h9 ht)))) (fun h8 => (l21 h8 ht)))))) (fun h6 => (by_way (.eq (.a 2) (.a 3)) (.at (.eq (.a 2) (.a 3)) true) (.at (.eq (.a 2) (.a 3)) false) rfl rfl h6 (fun h7 => (l22 h7 ht)) (fun h7 => (l23 h7 ht)))))) (fun h5 => (by_way (.eq (.a 2) (.a 3)) (.at (.eq (.a 2) (.a 3)) true) (.at (.eq (.a 2) (.a 3)) false) rfl rfl h5 (fun h6 => (l24 h6 ht)) (fun h6 => (l25 h6 ht)))))))))) (fun h2 => (by_way (.eq (.a 2) (.a 3)) (.at (.eq (.a 2) (.a 3)) true) (.at (.eq (.a 2) (.a 3)) false) rfl rfl h2 (fun h3 => (l26 h3 ht)) (fun h3 => (l27 h3 ht)))))) (fun h1 => (by_way (.eq (.a 2) (.a 3)) (.at (.eq (.a 2) (.a 3)) true) (.at (.eq (.a 2) (.a 3)) false) rfl rfl h1 (fun h2 => (l28 h2 ht)) (fun h2 => (l29 h2 ht)))))

theorem walk (a b : Int) (w : World) : Calls Try.prog 6 #[.int .i64 a, .int .i64 b] w fun e w' => e = .returned (.bool true) ∧ RowKit.Below w.heap.size w w' := by
  have ht : TabOK Try.prog (fun k => [a, b, a % 151, b % 151].getD k 0) sl0 tab := by
    intro x hx
    simp only [tab, List.mem_cons, List.not_mem_nil, or_false] at hx
    rcases hx with rfl | rfl
    · intro w
      have := (pickOK a 151 ⟨by omega, by omega⟩ w).mono (fun e w' (h : _ ∧ _) => (⟨h.1, h.2 ▸ RowKit.Below.refl _ _⟩ : e = .returned (.int .i64 (a % 151)) ∧ RowKit.Below w.heap.size w w'))
      simp only [concs, conc, SX.eval]
      exact this
    · intro w
      have := (pickOK b 151 ⟨by omega, by omega⟩ w).mono (fun e w' (h : _ ∧ _) => (⟨h.1, h.2 ▸ RowKit.Below.refl _ _⟩ : e = .returned (.int .i64 (b % 151)) ∧ RowKit.Below w.heap.size w w'))
      simp only [concs, conc, SX.eval]
      exact this
  have h0 : Holds (fun k => [a, b, a % 151, b % 151].getD k 0) [.ge (.a 2) 0, .le (.a 2) 150, .ge (.a 3) 0, .le (.a 3) 150] := by
    intro f hf
    simp only [List.mem_cons, List.not_mem_nil, or_false] at hf
    rcases hf with rfl | rfl | rfl | rfl
    · show (0 : Int) ≤ a % 151; omega
    · show a % 151 ≤ 150; omega
    · show (0 : Int) ≤ b % 151; omega
    · show b % 151 ≤ 150; omega
  exact apart h0 ht w

end Go.Proofs.Ytjkegmlfloomlaa.Apart
