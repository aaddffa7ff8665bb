/-
  'AluApart' says true of any two numbers: the ways through it, each a run; the ways that cannot be, by a look at all pairs of rows.
-/
import Derived.Test.YtmhgboeoiblmhaaTab
import Derived.Test.YtmhgboeoiblmhaaPick
import Derived.Test.YtmhgboeoiblmhaaSimB
import Derived.KernelRfl
namespace Go.Proofs.Ytmhgboeoiblmhaa.Apart
open Go.Sim Go.Proofs.Ytmhgboeoiblmhaa.Tab
set_option maxRecDepth 100000

def T0 : List Int := [0, 1, 0, 0, 0, 1, 0, 0, 1, 0, 0, 0, 1, 0, 0, 0, 1, 0, 0, 0, 1, 0, 0, 0, 1, 0, 0, 1, 0, 0, 0, 1, 0, 0, 0, 1, 0, 0, 0, 1, 0, 0, 0, 1, 0, 0, 1, 0, 0, 0, 1, 0, 0, 0, 1, 0, 0, 0, 1, 0, 0, 0, 1, 0, 0, 1, 0, 0, 0, 1, 0, 0, 0, 1, 0, 0, 0, 1, 0, 0, 0, 1, 0, 0, 1, 0, 0, 0, 1, 0, 0, 0, 1, 0, 0, 0, 1, 0, 0, 0, 1, 0, 0, 1, 0, 0, 0, 1, 0, 0, 0, 1, 0, 0, 0, 1, 0, 0, 0, 1, 0, 0, 1, 0, 0, 0, 1, 0, 0, 0, 1, 0, 0, 0, 1, 0, 0, 0, 1, 0, 0, 1, 0, 0, 0, 1, 0, 0, 0, 1, 0, 0, 0, 1, 0, 0, 0, 1, 0, 0, 0, 1, 0, 0, 0, 1, 0, 0, 0, 1, 0, 0, 0, 1, 0, 0, 0, 1, 0, 0, 0, 1, 0, 0, 1, 0, 0, 1, 0, 0, 0, 0, 1, 0, 0, 0, 0, 0, 1, 0, 0, 1, 0, 0, 1, 0, 0]

def T1 : List Int := [0, 0, 0, 1, 0, 0, 0, 1, 0, 0, 1, 0, 0, 0, 1, 0, 0, 0, 1, 0, 0, 0, 1, 0, 0, 0, 1, 0, 0, 1, 0, 0, 0, 1, 0, 0, 0, 1, 0, 0, 0, 1, 0, 0, 0, 1, 0, 0, 1, 0, 0, 0, 1, 0, 0, 0, 1, 0, 0, 0, 1, 0, 0, 0, 1, 0, 0, 1, 0, 0, 0, 1, 0, 0, 0, 1, 0, 0, 0, 1, 0, 0, 0, 1, 0, 0, 1, 0, 0, 0, 1, 0, 0, 0, 1, 0, 0, 0, 1, 0, 0, 0, 1, 0, 0, 1, 0, 0, 0, 1, 0, 0, 0, 1, 0, 0, 0, 1, 0, 0, 0, 1, 0, 0, 1, 0, 0, 0, 1, 0, 0, 0, 1, 0, 0, 0, 1, 0, 0, 0, 1, 0, 0, 1, 0, 0, 0, 1, 0, 0, 0, 1, 0, 0, 0, 1, 0, 0, 0, 1, 0, 0, 0, 1, 0, 0, 0, 1, 0, 0, 0, 1, 0, 0, 0, 1, 0, 0, 0, 1, 0, 0, 0, 1, 0, 0, 1, 0, 0, 1, 0, 1, 0, 0, 1, 0, 1, 1, 0, 0, 1, 0, 0, 1, 0, 0, 1]

def T2 : List Int := [0, 0, 0, 0, 0, 0, 0, 0, 0, 0, 0, 0, 0, 0, 0, 0, 0, 0, 0, 0, 0, 0, 0, 0, 0, 0, 0, 0, 0, 0, 0, 0, 0, 0, 0, 0, 0, 0, 0, 0, 0, 0, 0, 0, 0, 0, 0, 0, 0, 0, 0, 0, 0, 0, 0, 0, 0, 0, 0, 0, 0, 0, 0, 0, 0, 0, 0, 0, 0, 0, 0, 0, 0, 0, 0, 0, 0, 0, 0, 0, 0, 0, 0, 0, 0, 0, 0, 0, 0, 0, 0, 0, 0, 0, 0, 0, 0, 0, 0, 0, 0, 0, 0, 0, 0, 0, 0, 0, 0, 0, 0, 0, 0, 0, 0, 0, 0, 0, 0, 0, 0, 0, 0, 0, 0, 0, 0, 0, 0, 0, 0, 0, 0, 0, 0, 0, 0, 0, 0, 0, 0, 0, 0, 0, 0, 0, 0, 0, 0, 0, 0, 0, 0, 0, 0, 0, 0, 0, 0, 0, 0, 0, 0, 0, 0, 0, 0, 0, 0, 0, 0, 0, 0, 0, 0, 0, 0, 0, 0, 0, 0, 0, 0, 0, 0, 0, 0, 1, 1, 1, 1, 1, 1, 1, 1, 1, 1, 0, 1, 1, 1, 0, 0, 0, 0, 0, 0]

def T3 : List Int := [4, 5, 5, 5, 128, 129, 129, 129, 131, 131, 131, 0, 1, 1, 1, 2, 3, 3, 3, 12, 13, 13, 13, 128, 129, 129, 129, 131, 131, 131, 8, 9, 9, 9, 10, 11, 11, 11, 20, 21, 21, 21, 128, 129, 129, 129, 131, 131, 131, 16, 17, 17, 17, 18, 19, 19, 19, 28, 29, 29, 29, 128, 129, 129, 129, 131, 131, 131, 24, 25, 25, 25, 26, 27, 27, 27, 36, 37, 37, 37, 128, 129, 129, 129, 131, 131, 131, 32, 33, 33, 33, 34, 35, 35, 35, 44, 45, 45, 45, 128, 129, 129, 129, 131, 131, 131, 40, 41, 41, 41, 42, 43, 43, 43, 52, 53, 53, 53, 128, 129, 129, 129, 131, 131, 131, 48, 49, 49, 49, 50, 51, 51, 51, 60, 61, 61, 61, 128, 129, 129, 129, 131, 131, 131, 56, 57, 57, 57, 58, 59, 59, 59, 136, 137, 137, 137, 138, 139, 139, 139, 176, 184, 184, 184, 198, 199, 199, 199, 168, 169, 169, 169, 246, 247, 247, 247, 132, 133, 133, 133, 134, 135, 135, 135, 141, 141, 141, 182, 182, 182, 183, 183, 190, 190, 190, 191, 191, 99, 175, 175, 175, 107, 107, 107, 105, 105, 105]

def T4 : List Int := [(-1), (-1), (-1), (-1), 0, 0, 0, 0, 0, 0, 0, (-1), (-1), (-1), (-1), (-1), (-1), (-1), (-1), (-1), (-1), (-1), (-1), 1, 1, 1, 1, 1, 1, 1, (-1), (-1), (-1), (-1), (-1), (-1), (-1), (-1), (-1), (-1), (-1), (-1), 2, 2, 2, 2, 2, 2, 2, (-1), (-1), (-1), (-1), (-1), (-1), (-1), (-1), (-1), (-1), (-1), (-1), 3, 3, 3, 3, 3, 3, 3, (-1), (-1), (-1), (-1), (-1), (-1), (-1), (-1), (-1), (-1), (-1), (-1), 4, 4, 4, 4, 4, 4, 4, (-1), (-1), (-1), (-1), (-1), (-1), (-1), (-1), (-1), (-1), (-1), (-1), 5, 5, 5, 5, 5, 5, 5, (-1), (-1), (-1), (-1), (-1), (-1), (-1), (-1), (-1), (-1), (-1), (-1), 6, 6, 6, 6, 6, 6, 6, (-1), (-1), (-1), (-1), (-1), (-1), (-1), (-1), (-1), (-1), (-1), (-1), 7, 7, 7, 7, 7, 7, 7, (-1), (-1), (-1), (-1), (-1), (-1), (-1), (-1), (-1), (-1), (-1), (-1), (-1), (-1), (-1), (-1), (-1), (-1), (-1), (-1), 0, 0, 0, 0, (-1), (-1), (-1), (-1), 0, 0, 0, 0, (-1), (-1), (-1), (-1), (-1), (-1), (-1), (-1), (-1), (-1), (-1), (-1), (-1), (-1), (-1), (-1), (-1), (-1), (-1), (-1), (-1), (-1), (-1), (-1), (-1), (-1), (-1), (-1), (-1), (-1), (-1)]

abbrev sl0 : Nat → Option Addr × Nat := fun _ => (none, 0)

abbrev tab : List (FuncId × List AV × AV) := [(15, [.sx .i64 (.a 0), .v (.int .i64 (.ofNat 207))], .sx .i64 (.a 2)), (15, [.sx .i64 (.a 1), .v (.int .i64 (.ofNat 207))], .sx .i64 (.a 3))]

abbrev args : List AV := [.sx .i64 (.a 0), .sx .i64 (.a 1)]

def Q (val : Nat → Int) : Prop := Ret Try.prog 6 [.int .i64 (val 0), .int .i64 (val 1)] (.bool true)

theorem leaf {val : Nat → Int} {F : List Fact} (h : Holds val F) (ht : TabOK Try.prog val sl0 tab) (hg : saysTrue (@run (symsOf val F h sl0) Try.prog (orElse orc (tabO tab)) 1000 6 args) = true) : Q val := by
  have := leafTab (orc := orc) h orcOK mix (by kernel_rfl) (by kernel_rfl) (by kernel_rfl) ht hg
  simp only [concs, conc, SX.eval] at this
  exact this

/-! All pairs of rows. -/

abbrev Row := Nat × Nat × Nat

def R (x y : Row) : Bool := !(Nat.beq x.1 y.1) || (Nat.ble 1 x.2.2 && Nat.ble 1 y.2.2 && !Nat.beq x.2.2 y.2.2) || (Nat.ble 1 x.2.1 && Nat.ble 1 y.2.1 && !Nat.beq x.2.1 y.2.1)

def apartL : List Row → Bool
  | [] => true
  | x :: r => r.all (fun y => R x y && R y x) && apartL r

theorem apartL_pw : ∀ (l : List Row), apartL l = true → l.Pairwise (fun x y => R x y = true ∧ R y x = true)
  | [], _ => List.Pairwise.nil
  | x :: r, h => by
    simp only [apartL, Bool.and_eq_true, List.all_eq_true] at h
    exact List.Pairwise.cons (fun y hy => h.1 y hy) (apartL_pw r h.2)

theorem apart_fn (f : Nat → Row) (n : Nat) (lit : List Row) (he : (List.range n).map f = lit) (h : apartL lit = true) (i k : Nat) (hi : i < n) (hk : k < n) (hne : i ≠ k) : R (f i) (f k) = true := by
  subst he
  have hp := List.pairwise_iff_getElem.1 (apartL_pw _ h)
  rcases Nat.lt_or_gt_of_ne hne with hlt | hlt
  · have := (hp i k (by simpa using hi) (by simpa using hk) hlt).1
    simpa using this
  · have := (hp k i (by simpa using hk) (by simpa using hi) hlt).2
    simpa using this

def rowOf (i : Nat) : Row := (((((0) * 1000 + (T0.getD i (T0.headD 0) + 1).toNat) * 1000 + (T1.getD i (T1.headD 0) + 1).toNat) * 1000 + (T2.getD i (T2.headD 0) + 1).toNat) * 1000 + (T3.getD i (T3.headD 0) + 1).toNat, (T4.getD i (T4.headD 0) + 1).toNat, 0)

def lit : List Row := [(1001001005, 0, 0), (2001001006, 0, 0), (1001001006, 0, 0), (1002001006, 0, 0), (1001001129, 1, 0), (2001001130, 1, 0), (1001001130, 1, 0), (1002001130, 1, 0), (2001001132, 1, 0), (1001001132, 1, 0), (1002001132, 1, 0), (1001001001, 0, 0), (2001001002, 0, 0), (1001001002, 0, 0), (1002001002, 0, 0), (1001001003, 0, 0), (2001001004, 0, 0), (1001001004, 0, 0), (1002001004, 0, 0), (1001001013, 0, 0), (2001001014, 0, 0), (1001001014, 0, 0), (1002001014, 0, 0), (1001001129, 2, 0), (2001001130, 2, 0), (1001001130, 2, 0), (1002001130, 2, 0), (2001001132, 2, 0), (1001001132, 2, 0), (1002001132, 2, 0), (1001001009, 0, 0), (2001001010, 0, 0), (1001001010, 0, 0), (1002001010, 0, 0), (1001001011, 0, 0), (2001001012, 0, 0), (1001001012, 0, 0), (1002001012, 0, 0), (1001001021, 0, 0), (2001001022, 0, 0), (1001001022, 0, 0), (1002001022, 0, 0), (1001001129, 3, 0), (2001001130, 3, 0), (1001001130, 3, 0), (1002001130, 3, 0), (2001001132, 3, 0), (1001001132, 3, 0), (1002001132, 3, 0), (1001001017, 0, 0), (2001001018, 0, 0), (1001001018, 0, 0), (1002001018, 0, 0), (1001001019, 0, 0), (2001001020, 0, 0), (1001001020, 0, 0), (1002001020, 0, 0), (1001001029, 0, 0), (2001001030, 0, 0), (1001001030, 0, 0), (1002001030, 0, 0), (1001001129, 4, 0), (2001001130, 4, 0), (1001001130, 4, 0), (1002001130, 4, 0), (2001001132, 4, 0), (1001001132, 4, 0), (1002001132, 4, 0), (1001001025, 0, 0), (2001001026, 0, 0), (1001001026, 0, 0), (1002001026, 0, 0), (1001001027, 0, 0), (2001001028, 0, 0), (1001001028, 0, 0), (1002001028, 0, 0), (1001001037, 0, 0), (2001001038, 0, 0), (1001001038, 0, 0), (1002001038, 0, 0), (1001001129, 5, 0), (2001001130, 5, 0), (1001001130, 5, 0), (1002001130, 5, 0), (2001001132, 5, 0), (1001001132, 5, 0), (1002001132, 5, 0), (1001001033, 0, 0), (2001001034, 0, 0), (1001001034, 0, 0), (1002001034, 0, 0), (1001001035, 0, 0), (2001001036, 0, 0), (1001001036, 0, 0), (1002001036, 0, 0), (1001001045, 0, 0), (2001001046, 0, 0), (1001001046, 0, 0), (1002001046, 0, 0), (1001001129, 6, 0), (2001001130, 6, 0), (1001001130, 6, 0), (1002001130, 6, 0), (2001001132, 6, 0), (1001001132, 6, 0), (1002001132, 6, 0), (1001001041, 0, 0), (2001001042, 0, 0), (1001001042, 0, 0), (1002001042, 0, 0), (1001001043, 0, 0), (2001001044, 0, 0), (1001001044, 0, 0), (1002001044, 0, 0), (1001001053, 0, 0), (2001001054, 0, 0), (1001001054, 0, 0), (1002001054, 0, 0), (1001001129, 7, 0), (2001001130, 7, 0), (1001001130, 7, 0), (1002001130, 7, 0), (2001001132, 7, 0), (1001001132, 7, 0), (1002001132, 7, 0), (1001001049, 0, 0), (2001001050, 0, 0), (1001001050, 0, 0), (1002001050, 0, 0), (1001001051, 0, 0), (2001001052, 0, 0), (1001001052, 0, 0), (1002001052, 0, 0), (1001001061, 0, 0), (2001001062, 0, 0), (1001001062, 0, 0), (1002001062, 0, 0), (1001001129, 8, 0), (2001001130, 8, 0), (1001001130, 8, 0), (1002001130, 8, 0), (2001001132, 8, 0), (1001001132, 8, 0), (1002001132, 8, 0), (1001001057, 0, 0), (2001001058, 0, 0), (1001001058, 0, 0), (1002001058, 0, 0), (1001001059, 0, 0), (2001001060, 0, 0), (1001001060, 0, 0), (1002001060, 0, 0), (1001001137, 0, 0), (2001001138, 0, 0), (1001001138, 0, 0), (1002001138, 0, 0), (1001001139, 0, 0), (2001001140, 0, 0), (1001001140, 0, 0), (1002001140, 0, 0), (1001001177, 0, 0), (2001001185, 0, 0), (1001001185, 0, 0), (1002001185, 0, 0), (1001001199, 1, 0), (2001001200, 1, 0), (1001001200, 1, 0), (1002001200, 1, 0), (1001001169, 0, 0), (2001001170, 0, 0), (1001001170, 0, 0), (1002001170, 0, 0), (1001001247, 1, 0), (2001001248, 1, 0), (1001001248, 1, 0), (1002001248, 1, 0), (1001001133, 0, 0), (2001001134, 0, 0), (1001001134, 0, 0), (1002001134, 0, 0), (1001001135, 0, 0), (2001001136, 0, 0), (1001001136, 0, 0), (1002001136, 0, 0), (2001001142, 0, 0), (1001001142, 0, 0), (1002001142, 0, 0), (2001002183, 0, 0), (1001002183, 0, 0), (1002002183, 0, 0), (1001002184, 0, 0), (1002002184, 0, 0), (2001002191, 0, 0), (1001002191, 0, 0), (1002002191, 0, 0), (1001002192, 0, 0), (1002002192, 0, 0), (1002001100, 0, 0), (2001002176, 0, 0), (1001002176, 0, 0), (1002002176, 0, 0), (2001001108, 0, 0), (1001001108, 0, 0), (1002001108, 0, 0), (2001001106, 0, 0), (1001001106, 0, 0), (1002001106, 0, 0)]

theorem litEq : (List.range 207).map rowOf = lit := by kernel_rfl

theorem litApart : apartL lit = true := by kernel_rfl

theorem none_such {val : Nat → Int} (r0 : 0 ≤ val 2) (r1 : val 2 ≤ 206) (r2 : 0 ≤ val 3) (r3 : val 3 ≤ 206) (hne : val 2 ≠ val 3) (c0 : (SX.tab T0 (.a 2)).eval val = (SX.tab T0 (.a 3)).eval val) (c1 : (SX.tab T1 (.a 2)).eval val = (SX.tab T1 (.a 3)).eval val) (c2 : (SX.tab T2 (.a 2)).eval val = (SX.tab T2 (.a 3)).eval val) (c3 : (SX.tab T3 (.a 2)).eval val = (SX.tab T3 (.a 3)).eval val) : 0 ≤ (SX.tab T4 (.a 2)).eval val ∧ 0 ≤ (SX.tab T4 (.a 3)).eval val ∧ (SX.tab T4 (.a 2)).eval val ≠ (SX.tab T4 (.a 3)).eval val := by
  simp only [SX.eval] at c0 c1 c2 c3 ⊢
  have h := apart_fn rowOf 207 lit litEq litApart (val 2).toNat (val 3).toNat (by omega) (by omega) (by omega)
  have e : (rowOf (val 2).toNat).1 = (rowOf (val 3).toNat).1 := by
    simp only [rowOf]
    rw [c0, c1, c2, c3]
  simp only [R, Bool.or_eq_true, Bool.and_eq_true, Bool.not_eq_true'] at h
  rcases h with (h | h) | h
  · exact absurd e (Nat.ne_of_beq_eq_false h)
  · have h1 := Nat.le_of_ble_eq_true h.1.1
    have h2 := Nat.le_of_ble_eq_true h.1.2
    have h3 := Nat.ne_of_beq_eq_false h.2
    simp only [rowOf] at h1 h2 h3
    omega
  · have h1 := Nat.le_of_ble_eq_true h.1.1
    have h2 := Nat.le_of_ble_eq_true h.1.2
    have h3 := Nat.ne_of_beq_eq_false h.2
    simp only [rowOf] at h1 h2 h3
    omega

theorem l0 {val : Nat → Int} (h : Holds val [.at (.eq (.a 2) (.a 3)) true, .at (.eq (.tab T2 (.a 2)) (.tab T2 (.a 3))) true, .at (.eq (.tab T1 (.a 2)) (.tab T1 (.a 3))) true, .at (.eq (.tab T0 (.a 2)) (.tab T0 (.a 3))) true, .ge (.a 2) 0, .le (.a 2) 206, .ge (.a 3) 0, .le (.a 3) 206]) (ht : TabOK Try.prog val sl0 tab) : Q val := leaf h ht (by kernel_rfl)

theorem l1 {val : Nat → Int} (h : Holds val [.at (.eq (.tab T4 (.a 2)) (.tab T4 (.a 3))) true, .ge (.tab T4 (.a 3)) 0, .ge (.tab T4 (.a 2)) 0, .at (.eq (.tab T3 (.a 2)) (.tab T3 (.a 3))) true, .at (.eq (.a 2) (.a 3)) false, .at (.eq (.tab T2 (.a 2)) (.tab T2 (.a 3))) true, .at (.eq (.tab T1 (.a 2)) (.tab T1 (.a 3))) true, .at (.eq (.tab T0 (.a 2)) (.tab T0 (.a 3))) true, .ge (.a 2) 0, .le (.a 2) 206, .ge (.a 3) 0, .le (.a 3) 206]) (_ : TabOK Try.prog val sl0 tab) : Q val := by
  exfalso
  have f0 : (SX.tab T4 (.a 2)).eval val = (SX.tab T4 (.a 3)).eval val := eq_of_beq (h _ (List.Mem.head _))
  have f1 : 0 ≤ (SX.tab T4 (.a 3)).eval val := h _ (List.Mem.tail _ (List.Mem.head _))
  have f2 : 0 ≤ (SX.tab T4 (.a 2)).eval val := h _ (List.Mem.tail _ (List.Mem.tail _ (List.Mem.head _)))
  have f3 : (SX.tab T3 (.a 2)).eval val = (SX.tab T3 (.a 3)).eval val := eq_of_beq (h _ (List.Mem.tail _ (List.Mem.tail _ (List.Mem.tail _ (List.Mem.head _)))))
  have f4 : val 2 ≠ val 3 := ne_of_beq_false (h _ (List.Mem.tail _ (List.Mem.tail _ (List.Mem.tail _ (List.Mem.tail _ (List.Mem.head _))))))
  have f5 : (SX.tab T2 (.a 2)).eval val = (SX.tab T2 (.a 3)).eval val := eq_of_beq (h _ (List.Mem.tail _ (List.Mem.tail _ (List.Mem.tail _ (List.Mem.tail _ (List.Mem.tail _ (List.Mem.head _)))))))
  have f6 : (SX.tab T1 (.a 2)).eval val = (SX.tab T1 (.a 3)).eval val := eq_of_beq (h _ (List.Mem.tail _ (List.Mem.tail _ (List.Mem.tail _ (List.Mem.tail _ (List.Mem.tail _ (List.Mem.tail _ (List.Mem.head _))))))))
  have f7 : (SX.tab T0 (.a 2)).eval val = (SX.tab T0 (.a 3)).eval val := eq_of_beq (h _ (List.Mem.tail _ (List.Mem.tail _ (List.Mem.tail _ (List.Mem.tail _ (List.Mem.tail _ (List.Mem.tail _ (List.Mem.tail _ (List.Mem.head _)))))))))
  have f8 : 0 ≤ val 2 := h _ (List.Mem.tail _ (List.Mem.tail _ (List.Mem.tail _ (List.Mem.tail _ (List.Mem.tail _ (List.Mem.tail _ (List.Mem.tail _ (List.Mem.tail _ (List.Mem.head _)))))))))
  have f9 : val 2 ≤ 206 := h _ (List.Mem.tail _ (List.Mem.tail _ (List.Mem.tail _ (List.Mem.tail _ (List.Mem.tail _ (List.Mem.tail _ (List.Mem.tail _ (List.Mem.tail _ (List.Mem.tail _ (List.Mem.head _))))))))))
  have f10 : 0 ≤ val 3 := h _ (List.Mem.tail _ (List.Mem.tail _ (List.Mem.tail _ (List.Mem.tail _ (List.Mem.tail _ (List.Mem.tail _ (List.Mem.tail _ (List.Mem.tail _ (List.Mem.tail _ (List.Mem.tail _ (List.Mem.head _)))))))))))
  have f11 : val 3 ≤ 206 := h _ (List.Mem.tail _ (List.Mem.tail _ (List.Mem.tail _ (List.Mem.tail _ (List.Mem.tail _ (List.Mem.tail _ (List.Mem.tail _ (List.Mem.tail _ (List.Mem.tail _ (List.Mem.tail _ (List.Mem.tail _ (List.Mem.head _))))))))))))
  have hn := none_such (val := val) (by omega) (by omega) (by omega) (by omega) (by omega) (by omega) (by omega) (by omega) (by omega)
  omega

theorem l2 {val : Nat → Int} (h : Holds val [.at (.eq (.tab T4 (.a 2)) (.tab T4 (.a 3))) false, .ge (.tab T4 (.a 3)) 0, .ge (.tab T4 (.a 2)) 0, .at (.eq (.tab T3 (.a 2)) (.tab T3 (.a 3))) true, .at (.eq (.a 2) (.a 3)) false, .at (.eq (.tab T2 (.a 2)) (.tab T2 (.a 3))) true, .at (.eq (.tab T1 (.a 2)) (.tab T1 (.a 3))) true, .at (.eq (.tab T0 (.a 2)) (.tab T0 (.a 3))) true, .ge (.a 2) 0, .le (.a 2) 206, .ge (.a 3) 0, .le (.a 3) 206]) (ht : TabOK Try.prog val sl0 tab) : Q val := leaf h ht (by kernel_rfl)

theorem l3 {val : Nat → Int} (h : Holds val [.le (.tab T4 (.a 3)) (-1), .ge (.tab T4 (.a 2)) 0, .at (.eq (.tab T3 (.a 2)) (.tab T3 (.a 3))) true, .at (.eq (.a 2) (.a 3)) false, .at (.eq (.tab T2 (.a 2)) (.tab T2 (.a 3))) true, .at (.eq (.tab T1 (.a 2)) (.tab T1 (.a 3))) true, .at (.eq (.tab T0 (.a 2)) (.tab T0 (.a 3))) true, .ge (.a 2) 0, .le (.a 2) 206, .ge (.a 3) 0, .le (.a 3) 206]) (_ : TabOK Try.prog val sl0 tab) : Q val := by
  exfalso
  have f0 : (SX.tab T4 (.a 3)).eval val ≤ (-1) := h _ (List.Mem.head _)
  have f1 : 0 ≤ (SX.tab T4 (.a 2)).eval val := h _ (List.Mem.tail _ (List.Mem.head _))
  have f2 : (SX.tab T3 (.a 2)).eval val = (SX.tab T3 (.a 3)).eval val := eq_of_beq (h _ (List.Mem.tail _ (List.Mem.tail _ (List.Mem.head _))))
  have f3 : val 2 ≠ val 3 := ne_of_beq_false (h _ (List.Mem.tail _ (List.Mem.tail _ (List.Mem.tail _ (List.Mem.head _)))))
  have f4 : (SX.tab T2 (.a 2)).eval val = (SX.tab T2 (.a 3)).eval val := eq_of_beq (h _ (List.Mem.tail _ (List.Mem.tail _ (List.Mem.tail _ (List.Mem.tail _ (List.Mem.head _))))))
  have f5 : (SX.tab T1 (.a 2)).eval val = (SX.tab T1 (.a 3)).eval val := eq_of_beq (h _ (List.Mem.tail _ (List.Mem.tail _ (List.Mem.tail _ (List.Mem.tail _ (List.Mem.tail _ (List.Mem.head _)))))))
  have f6 : (SX.tab T0 (.a 2)).eval val = (SX.tab T0 (.a 3)).eval val := eq_of_beq (h _ (List.Mem.tail _ (List.Mem.tail _ (List.Mem.tail _ (List.Mem.tail _ (List.Mem.tail _ (List.Mem.tail _ (List.Mem.head _))))))))
  have f7 : 0 ≤ val 2 := h _ (List.Mem.tail _ (List.Mem.tail _ (List.Mem.tail _ (List.Mem.tail _ (List.Mem.tail _ (List.Mem.tail _ (List.Mem.tail _ (List.Mem.head _))))))))
  have f8 : val 2 ≤ 206 := h _ (List.Mem.tail _ (List.Mem.tail _ (List.Mem.tail _ (List.Mem.tail _ (List.Mem.tail _ (List.Mem.tail _ (List.Mem.tail _ (List.Mem.tail _ (List.Mem.head _)))))))))
  have f9 : 0 ≤ val 3 := h _ (List.Mem.tail _ (List.Mem.tail _ (List.Mem.tail _ (List.Mem.tail _ (List.Mem.tail _ (List.Mem.tail _ (List.Mem.tail _ (List.Mem.tail _ (List.Mem.tail _ (List.Mem.head _))))))))))
  have f10 : val 3 ≤ 206 := h _ (List.Mem.tail _ (List.Mem.tail _ (List.Mem.tail _ (List.Mem.tail _ (List.Mem.tail _ (List.Mem.tail _ (List.Mem.tail _ (List.Mem.tail _ (List.Mem.tail _ (List.Mem.tail _ (List.Mem.head _)))))))))))
  have hn := none_such (val := val) (by omega) (by omega) (by omega) (by omega) (by omega) (by omega) (by omega) (by omega) (by omega)
  omega

theorem l4 {val : Nat → Int} (h : Holds val [.le (.tab T4 (.a 2)) (-1), .at (.eq (.tab T3 (.a 2)) (.tab T3 (.a 3))) true, .at (.eq (.a 2) (.a 3)) false, .at (.eq (.tab T2 (.a 2)) (.tab T2 (.a 3))) true, .at (.eq (.tab T1 (.a 2)) (.tab T1 (.a 3))) true, .at (.eq (.tab T0 (.a 2)) (.tab T0 (.a 3))) true, .ge (.a 2) 0, .le (.a 2) 206, .ge (.a 3) 0, .le (.a 3) 206]) (_ : TabOK Try.prog val sl0 tab) : Q val := by
  exfalso
  have f0 : (SX.tab T4 (.a 2)).eval val ≤ (-1) := h _ (List.Mem.head _)
  have f1 : (SX.tab T3 (.a 2)).eval val = (SX.tab T3 (.a 3)).eval val := eq_of_beq (h _ (List.Mem.tail _ (List.Mem.head _)))
  have f2 : val 2 ≠ val 3 := ne_of_beq_false (h _ (List.Mem.tail _ (List.Mem.tail _ (List.Mem.head _))))
  have f3 : (SX.tab T2 (.a 2)).eval val = (SX.tab T2 (.a 3)).eval val := eq_of_beq (h _ (List.Mem.tail _ (List.Mem.tail _ (List.Mem.tail _ (List.Mem.head _)))))
  have f4 : (SX.tab T1 (.a 2)).eval val = (SX.tab T1 (.a 3)).eval val := eq_of_beq (h _ (List.Mem.tail _ (List.Mem.tail _ (List.Mem.tail _ (List.Mem.tail _ (List.Mem.head _))))))
  have f5 : (SX.tab T0 (.a 2)).eval val = (SX.tab T0 (.a 3)).eval val := eq_of_beq (h _ (List.Mem.tail _ (List.Mem.tail _ (List.Mem.tail _ (List.Mem.tail _ (List.Mem.tail _ (List.Mem.head _)))))))
  have f6 : 0 ≤ val 2 := h _ (List.Mem.tail _ (List.Mem.tail _ (List.Mem.tail _ (List.Mem.tail _ (List.Mem.tail _ (List.Mem.tail _ (List.Mem.head _)))))))
  have f7 : val 2 ≤ 206 := h _ (List.Mem.tail _ (List.Mem.tail _ (List.Mem.tail _ (List.Mem.tail _ (List.Mem.tail _ (List.Mem.tail _ (List.Mem.tail _ (List.Mem.head _))))))))
  have f8 : 0 ≤ val 3 := h _ (List.Mem.tail _ (List.Mem.tail _ (List.Mem.tail _ (List.Mem.tail _ (List.Mem.tail _ (List.Mem.tail _ (List.Mem.tail _ (List.Mem.tail _ (List.Mem.head _)))))))))
  have f9 : val 3 ≤ 206 := h _ (List.Mem.tail _ (List.Mem.tail _ (List.Mem.tail _ (List.Mem.tail _ (List.Mem.tail _ (List.Mem.tail _ (List.Mem.tail _ (List.Mem.tail _ (List.Mem.tail _ (List.Mem.head _))))))))))
  have hn := none_such (val := val) (by omega) (by omega) (by omega) (by omega) (by omega) (by omega) (by omega) (by omega) (by omega)
  omega

theorem l5 {val : Nat → Int} (h : Holds val [.at (.eq (.tab T3 (.a 2)) (.tab T3 (.a 3))) false, .at (.eq (.a 2) (.a 3)) false, .at (.eq (.tab T2 (.a 2)) (.tab T2 (.a 3))) true, .at (.eq (.tab T1 (.a 2)) (.tab T1 (.a 3))) true, .at (.eq (.tab T0 (.a 2)) (.tab T0 (.a 3))) true, .ge (.a 2) 0, .le (.a 2) 206, .ge (.a 3) 0, .le (.a 3) 206]) (ht : TabOK Try.prog val sl0 tab) : Q val := leaf h ht (by kernel_rfl)

theorem l6 {val : Nat → Int} (h : Holds val [.at (.eq (.a 2) (.a 3)) true, .at (.eq (.tab T2 (.a 2)) (.tab T2 (.a 3))) false, .at (.eq (.tab T1 (.a 2)) (.tab T1 (.a 3))) true, .at (.eq (.tab T0 (.a 2)) (.tab T0 (.a 3))) true, .ge (.a 2) 0, .le (.a 2) 206, .ge (.a 3) 0, .le (.a 3) 206]) (ht : TabOK Try.prog val sl0 tab) : Q val := leaf h ht (by kernel_rfl)

theorem l7 {val : Nat → Int} (h : Holds val [.at (.eq (.a 2) (.a 3)) false, .at (.eq (.tab T2 (.a 2)) (.tab T2 (.a 3))) false, .at (.eq (.tab T1 (.a 2)) (.tab T1 (.a 3))) true, .at (.eq (.tab T0 (.a 2)) (.tab T0 (.a 3))) true, .ge (.a 2) 0, .le (.a 2) 206, .ge (.a 3) 0, .le (.a 3) 206]) (ht : TabOK Try.prog val sl0 tab) : Q val := leaf h ht (by kernel_rfl)

theorem l8 {val : Nat → Int} (h : Holds val [.at (.eq (.a 2) (.a 3)) true, .at (.eq (.tab T1 (.a 2)) (.tab T1 (.a 3))) false, .at (.eq (.tab T0 (.a 2)) (.tab T0 (.a 3))) true, .ge (.a 2) 0, .le (.a 2) 206, .ge (.a 3) 0, .le (.a 3) 206]) (ht : TabOK Try.prog val sl0 tab) : Q val := leaf h ht (by kernel_rfl)

theorem l9 {val : Nat → Int} (h : Holds val [.at (.eq (.a 2) (.a 3)) false, .at (.eq (.tab T1 (.a 2)) (.tab T1 (.a 3))) false, .at (.eq (.tab T0 (.a 2)) (.tab T0 (.a 3))) true, .ge (.a 2) 0, .le (.a 2) 206, .ge (.a 3) 0, .le (.a 3) 206]) (ht : TabOK Try.prog val sl0 tab) : Q val := leaf h ht (by kernel_rfl)

theorem l10 {val : Nat → Int} (h : Holds val [.at (.eq (.a 2) (.a 3)) true, .at (.eq (.tab T0 (.a 2)) (.tab T0 (.a 3))) false, .ge (.a 2) 0, .le (.a 2) 206, .ge (.a 3) 0, .le (.a 3) 206]) (ht : TabOK Try.prog val sl0 tab) : Q val := leaf h ht (by kernel_rfl)

theorem l11 {val : Nat → Int} (h : Holds val [.at (.eq (.a 2) (.a 3)) false, .at (.eq (.tab T0 (.a 2)) (.tab T0 (.a 3))) false, .ge (.a 2) 0, .le (.a 2) 206, .ge (.a 3) 0, .le (.a 3) 206]) (ht : TabOK Try.prog val sl0 tab) : Q val := leaf h ht (by kernel_rfl)

theorem apart {val : Nat → Int} (h0 : Holds val [.ge (.a 2) 0, .le (.a 2) 206, .ge (.a 3) 0, .le (.a 3) 206]) (ht : TabOK Try.prog val sl0 tab) : Q val := (by_way (.eq (.tab T0 (.a 2)) (.tab T0 (.a 3))) (.at (.eq (.tab T0 (.a 2)) (.tab T0 (.a 3))) true) (.at (.eq (.tab T0 (.a 2)) (.tab T0 (.a 3))) false) rfl rfl h0 (fun h1 => (by_way (.eq (.tab T1 (.a 2)) (.tab T1 (.a 3))) (.at (.eq (.tab T1 (.a 2)) (.tab T1 (.a 3))) true) (.at (.eq (.tab T1 (.a 2)) (.tab T1 (.a 3))) false) rfl rfl h1 (fun h2 => (by_way (.eq (.tab T2 (.a 2)) (.tab T2 (.a 3))) (.at (.eq (.tab T2 (.a 2)) (.tab T2 (.a 3))) true) (.at (.eq (.tab T2 (.a 2)) (.tab T2 (.a 3))) false) rfl rfl h2 (fun h3 => (by_way (.eq (.a 2) (.a 3)) (.at (.eq (.a 2) (.a 3)) true) (.at (.eq (.a 2) (.a 3)) false) rfl rfl h3 (fun h4 => (l0 h4 ht)) (fun h4 => (by_way (.eq (.tab T3 (.a 2)) (.tab T3 (.a 3))) (.at (.eq (.tab T3 (.a 2)) (.tab T3 (.a 3))) true) (.at (.eq (.tab T3 (.a 2)) (.tab T3 (.a 3))) false) rfl rfl h4 (fun h5 => (by_way (.le (.c 0) (.tab T4 (.a 2))) (.ge (.tab T4 (.a 2)) 0) (.le (.tab T4 (.a 2)) (-1)) rfl rfl h5 (fun h6 => (by_way (.le (.c 0) (.tab T4 (.a 3))) (.ge (.tab T4 (.a 3)) 0) (.le (.tab T4 (.a 3)) (-1)) rfl rfl h6 (fun h7 => (by_way (.eq (.tab T4 (.a 2)) (.tab T4 (.a 3))) (.at (.eq (.tab T4 (.a 2)) (.tab T4 (.a 3))) true) (.at (.eq (.tab T4 (.a 2)) (.tab T4 (.a 3))) false) rfl rfl h7 (fun h8 => (l1 h8 ht)) (fun h8 => (l2 h8 ht)))) (fun h7 => (l3 h7 ht)))) (fun h6 => (l4 h6 ht)))) (fun h5 => (l5 h5 ht)))))) (fun h3 => (by_way (.eq (.a 2) (.a 3)) (.at (.eq (.a 2) (.a 3)) true) (.at (.eq (.a 2) (.a 3)) false) rfl rfl h3 (fun h4 => (l6 h4 ht)) (fun h4 => (l7 h4 ht)))))) (fun h2 => (by_way (.eq (.a 2) (.a 3)) (.at (.eq (.a 2) (.a 3)) true) (.at (.eq (.a 2) (.a 3)) false) rfl rfl h2 (fun h3 => (l8 h3 ht)) (fun h3 => (l9 h3 ht)))))) (fun h1 => (by_way (.eq (.a 2) (.a 3)) (.at (.eq (.a 2) (.a 3)) true) (.at (.eq (.a 2) (.a 3)) false) rfl rfl h1 (fun h2 => (l10 h2 ht)) (fun h2 => (l11 h2 ht)))))

theorem walk (a b : Int) (w : World) : Calls Try.prog 6 #[.int .i64 a, .int .i64 b] w fun e w' => e = .returned (.bool true) ∧ RowKit.Below w.heap.size w w' := by
  have ht : TabOK Try.prog (fun k => [a, b, a % 207, b % 207].getD k 0) sl0 tab := by
    intro x hx
    simp only [tab, List.mem_cons, List.not_mem_nil, or_false] at hx
    rcases hx with rfl | rfl
    · intro w
      have := (pickOK a 207 ⟨by omega, by omega⟩ w).mono (fun e w' (h : _ ∧ _) => (⟨h.1, h.2 ▸ RowKit.Below.refl _ _⟩ : e = .returned (.int .i64 (a % 207)) ∧ RowKit.Below w.heap.size w w'))
      simp only [concs, conc, SX.eval]
      exact this
    · intro w
      have := (pickOK b 207 ⟨by omega, by omega⟩ w).mono (fun e w' (h : _ ∧ _) => (⟨h.1, h.2 ▸ RowKit.Below.refl _ _⟩ : e = .returned (.int .i64 (b % 207)) ∧ RowKit.Below w.heap.size w w'))
      simp only [concs, conc, SX.eval]
      exact this
  have h0 : Holds (fun k => [a, b, a % 207, b % 207].getD k 0) [.ge (.a 2) 0, .le (.a 2) 206, .ge (.a 3) 0, .le (.a 3) 206] := by
    intro f hf
    simp only [List.mem_cons, List.not_mem_nil, or_false] at hf
    rcases hf with rfl | rfl | rfl | rfl
    · show (0 : Int) ≤ a % 207; omega
    · show a % 207 ≤ 206; omega
    · show (0 : Int) ≤ b % 207; omega
    · show b % 207 ≤ 206; omega
  exact apart h0 ht w

end Go.Proofs.Ytmhgboeoiblmhaa.Apart
