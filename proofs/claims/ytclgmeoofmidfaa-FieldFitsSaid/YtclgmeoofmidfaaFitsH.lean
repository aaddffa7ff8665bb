/-
  The law 'FieldFits', by widths: what is known on each way.
-/
import Derived.Test.YtclgmeoofmidfaaFld
import Derived.Test.YtclgmeoofmidfaaPick
namespace Go.Proofs.Ytclgmeoofmidfaa.FitsL
open Go.Sim Go.Proofs.Ytclgmeoofmidfaa.Fld
set_option maxRecDepth 100000

theorem awakeOK [Syms] : CallerOK Try.prog (known 24 yes []) := known_of_run (ids := []) (fuel := 1000) noOrc_sound mix (by kernel_rfl) (by kernel_rfl)

abbrev a (k : Nat) : AV := .sx .i64 (.a k)

abbrev bv (b : Bool) : AV := .v (.bool b)

abbrev X (k : Nat) : SX := .wrap .i64 (.add (.c (.ofNat k)) (.a 5))

abbrev W (k : Nat) (w : Bool) : AV := cond w (.sx .i64 (X k)) (.v (.int .i64 (.ofNat 64)))

abbrev base (fb wb : Bool) : List (FuncId × List AV × AV) := [(20, [a 0, a 1], a 3), (22, [a 0, a 1], a 4), (16, [a 0, a 1], bv fb), (18, [a 0, a 1], bv wb), (16, [a 3, a 1], bv true), (20, [a 3, a 1], a 3), (22, [a 4, a 1], a 4), (25, [a 2, .v (.int .i64 (.ofNat 64))], a 5)]

abbrev tabW (k : Nat) (fb wb w : Bool) : List (FuncId × List AV × AV) := base fb wb ++ (cond fb [(16, [a 0, W k w], bv true)] [] ++ cond wb [(18, [a 0, W k w], bv true)] [])

abbrev fct (k : Nat) (e fb wb w : Bool) : List Fact :=
  cond w (.le (X k) 64) (.ge (X k) 65) :: .is (.a 1) (.ofNat k) :: .ge (.a 5) 0 :: .le (.a 5) 63 :: .at (.eq (.a 3) (.a 4)) e :: .at (.eq (.a 3) (.a 0)) fb ::
    (cond fb [] [.at (.eq (.a 4) (.a 0)) wb] ++ (cond (Nat.ble k 63) [.ge (.a 4) 0] [] ++ cond (e || Nat.ble 63 k) [] [.is (.wrap .i64 (.sub (.a 4) (.a 3))) (.ofNat (2 ^ k))]))

def Q (val : Nat → Int) : Prop := Ret Try.prog 5 [.int .i64 (val 0), .int .i64 (val 1), .int .i64 (val 2)] (.bool true)

theorem leaf {val : Nat → Int} {F : List Fact} (h : Holds val F) {tab : List (FuncId × List AV × AV)} (ht : TabOK Try.prog val sl0 tab) (hb : tab.all (fun x => bodyOK Try.prog x.1) = true) (hp : tab.all (fun x => plain x.2.2 && plains x.2.1) = true)
    (hg : saysTrue (@run (symsOf val F h sl0) Try.prog (orElse (known 24 yes []) (tabO tab)) 1000 5 [a 0, a 1, a 2]) = true) : Q val := by
  have := leafTab (orc := known 24 yes []) h awakeOK mix (by kernel_rfl) hb hp ht hg
  simp only [concs, conc, SX.eval] at this
  exact this

/-- The law, of so many bits. -/
def D (k : Nat) : Prop := ∀ (val : Nat → Int) (e fb wb w : Bool), Holds val (fct k e fb wb w) → TabOK Try.prog val sl0 (tabW k fb wb w) → (fb = true → wb = true) → (e = true → fb = wb) → (k = 64 → e = true) → Q val

end Go.Proofs.Ytclgmeoofmidfaa.FitsL
