/-
  The law 'FieldTells', by lengths: what is known on each way.
-/
import Derived.Test.YtclgmeoofmidfaaGet
namespace Go.Proofs.Ytclgmeoofmidfaa.TellsL
open Go.Sim Go.Proofs.Ytclgmeoofmidfaa.Fld
set_option maxRecDepth 100000

def b100 : List SX := [.wrap .u8 (.a 100), .wrap .u8 (.a 101), .wrap .u8 (.a 102), .wrap .u8 (.a 103), .wrap .u8 (.a 104), .wrap .u8 (.a 105), .wrap .u8 (.a 106), .wrap .u8 (.a 107), .wrap .u8 (.a 108), .wrap .u8 (.a 109), .wrap .u8 (.a 110), .wrap .u8 (.a 111), .wrap .u8 (.a 112), .wrap .u8 (.a 113), .wrap .u8 (.a 114), .wrap .u8 (.a 115), .wrap .u8 (.a 116), .wrap .u8 (.a 117), .wrap .u8 (.a 118), .wrap .u8 (.a 119), .wrap .u8 (.a 120), .wrap .u8 (.a 121), .wrap .u8 (.a 122), .wrap .u8 (.a 123), .wrap .u8 (.a 124), .wrap .u8 (.a 125), .wrap .u8 (.a 126), .wrap .u8 (.a 127), .wrap .u8 (.a 128), .wrap .u8 (.a 129), .wrap .u8 (.a 130), .wrap .u8 (.a 131), .wrap .u8 (.a 132), .wrap .u8 (.a 133), .wrap .u8 (.a 134), .wrap .u8 (.a 135), .wrap .u8 (.a 136), .wrap .u8 (.a 137), .wrap .u8 (.a 138), .wrap .u8 (.a 139), .wrap .u8 (.a 140), .wrap .u8 (.a 141), .wrap .u8 (.a 142), .wrap .u8 (.a 143), .wrap .u8 (.a 144), .wrap .u8 (.a 145), .wrap .u8 (.a 146), .wrap .u8 (.a 147), .wrap .u8 (.a 148), .wrap .u8 (.a 149), .wrap .u8 (.a 150), .wrap .u8 (.a 151), .wrap .u8 (.a 152), .wrap .u8 (.a 153), .wrap .u8 (.a 154), .wrap .u8 (.a 155), .wrap .u8 (.a 156), .wrap .u8 (.a 157), .wrap .u8 (.a 158), .wrap .u8 (.a 159), .wrap .u8 (.a 160), .wrap .u8 (.a 161), .wrap .u8 (.a 162), .wrap .u8 (.a 163), .wrap .u8 (.a 164), .wrap .u8 (.a 165), .wrap .u8 (.a 166), .wrap .u8 (.a 167), .wrap .u8 (.a 168), .wrap .u8 (.a 169), .wrap .u8 (.a 170), .wrap .u8 (.a 171), .wrap .u8 (.a 172), .wrap .u8 (.a 173), .wrap .u8 (.a 174), .wrap .u8 (.a 175), .wrap .u8 (.a 176), .wrap .u8 (.a 177), .wrap .u8 (.a 178), .wrap .u8 (.a 179), .wrap .u8 (.a 180), .wrap .u8 (.a 181), .wrap .u8 (.a 182), .wrap .u8 (.a 183), .wrap .u8 (.a 184), .wrap .u8 (.a 185), .wrap .u8 (.a 186), .wrap .u8 (.a 187), .wrap .u8 (.a 188), .wrap .u8 (.a 189), .wrap .u8 (.a 190), .wrap .u8 (.a 191), .wrap .u8 (.a 192), .wrap .u8 (.a 193), .wrap .u8 (.a 194), .wrap .u8 (.a 195), .wrap .u8 (.a 196), .wrap .u8 (.a 197), .wrap .u8 (.a 198), .wrap .u8 (.a 199)]

def c100 : List AV := [.sx .u8 (.wrap .u8 (.a 100)), .sx .u8 (.wrap .u8 (.a 101)), .sx .u8 (.wrap .u8 (.a 102)), .sx .u8 (.wrap .u8 (.a 103)), .sx .u8 (.wrap .u8 (.a 104)), .sx .u8 (.wrap .u8 (.a 105)), .sx .u8 (.wrap .u8 (.a 106)), .sx .u8 (.wrap .u8 (.a 107)), .sx .u8 (.wrap .u8 (.a 108)), .sx .u8 (.wrap .u8 (.a 109)), .sx .u8 (.wrap .u8 (.a 110)), .sx .u8 (.wrap .u8 (.a 111)), .sx .u8 (.wrap .u8 (.a 112)), .sx .u8 (.wrap .u8 (.a 113)), .sx .u8 (.wrap .u8 (.a 114)), .sx .u8 (.wrap .u8 (.a 115)), .sx .u8 (.wrap .u8 (.a 116)), .sx .u8 (.wrap .u8 (.a 117)), .sx .u8 (.wrap .u8 (.a 118)), .sx .u8 (.wrap .u8 (.a 119)), .sx .u8 (.wrap .u8 (.a 120)), .sx .u8 (.wrap .u8 (.a 121)), .sx .u8 (.wrap .u8 (.a 122)), .sx .u8 (.wrap .u8 (.a 123)), .sx .u8 (.wrap .u8 (.a 124)), .sx .u8 (.wrap .u8 (.a 125)), .sx .u8 (.wrap .u8 (.a 126)), .sx .u8 (.wrap .u8 (.a 127)), .sx .u8 (.wrap .u8 (.a 128)), .sx .u8 (.wrap .u8 (.a 129)), .sx .u8 (.wrap .u8 (.a 130)), .sx .u8 (.wrap .u8 (.a 131)), .sx .u8 (.wrap .u8 (.a 132)), .sx .u8 (.wrap .u8 (.a 133)), .sx .u8 (.wrap .u8 (.a 134)), .sx .u8 (.wrap .u8 (.a 135)), .sx .u8 (.wrap .u8 (.a 136)), .sx .u8 (.wrap .u8 (.a 137)), .sx .u8 (.wrap .u8 (.a 138)), .sx .u8 (.wrap .u8 (.a 139)), .sx .u8 (.wrap .u8 (.a 140)), .sx .u8 (.wrap .u8 (.a 141)), .sx .u8 (.wrap .u8 (.a 142)), .sx .u8 (.wrap .u8 (.a 143)), .sx .u8 (.wrap .u8 (.a 144)), .sx .u8 (.wrap .u8 (.a 145)), .sx .u8 (.wrap .u8 (.a 146)), .sx .u8 (.wrap .u8 (.a 147)), .sx .u8 (.wrap .u8 (.a 148)), .sx .u8 (.wrap .u8 (.a 149)), .sx .u8 (.wrap .u8 (.a 150)), .sx .u8 (.wrap .u8 (.a 151)), .sx .u8 (.wrap .u8 (.a 152)), .sx .u8 (.wrap .u8 (.a 153)), .sx .u8 (.wrap .u8 (.a 154)), .sx .u8 (.wrap .u8 (.a 155)), .sx .u8 (.wrap .u8 (.a 156)), .sx .u8 (.wrap .u8 (.a 157)), .sx .u8 (.wrap .u8 (.a 158)), .sx .u8 (.wrap .u8 (.a 159)), .sx .u8 (.wrap .u8 (.a 160)), .sx .u8 (.wrap .u8 (.a 161)), .sx .u8 (.wrap .u8 (.a 162)), .sx .u8 (.wrap .u8 (.a 163)), .sx .u8 (.wrap .u8 (.a 164)), .sx .u8 (.wrap .u8 (.a 165)), .sx .u8 (.wrap .u8 (.a 166)), .sx .u8 (.wrap .u8 (.a 167)), .sx .u8 (.wrap .u8 (.a 168)), .sx .u8 (.wrap .u8 (.a 169)), .sx .u8 (.wrap .u8 (.a 170)), .sx .u8 (.wrap .u8 (.a 171)), .sx .u8 (.wrap .u8 (.a 172)), .sx .u8 (.wrap .u8 (.a 173)), .sx .u8 (.wrap .u8 (.a 174)), .sx .u8 (.wrap .u8 (.a 175)), .sx .u8 (.wrap .u8 (.a 176)), .sx .u8 (.wrap .u8 (.a 177)), .sx .u8 (.wrap .u8 (.a 178)), .sx .u8 (.wrap .u8 (.a 179)), .sx .u8 (.wrap .u8 (.a 180)), .sx .u8 (.wrap .u8 (.a 181)), .sx .u8 (.wrap .u8 (.a 182)), .sx .u8 (.wrap .u8 (.a 183)), .sx .u8 (.wrap .u8 (.a 184)), .sx .u8 (.wrap .u8 (.a 185)), .sx .u8 (.wrap .u8 (.a 186)), .sx .u8 (.wrap .u8 (.a 187)), .sx .u8 (.wrap .u8 (.a 188)), .sx .u8 (.wrap .u8 (.a 189)), .sx .u8 (.wrap .u8 (.a 190)), .sx .u8 (.wrap .u8 (.a 191)), .sx .u8 (.wrap .u8 (.a 192)), .sx .u8 (.wrap .u8 (.a 193)), .sx .u8 (.wrap .u8 (.a 194)), .sx .u8 (.wrap .u8 (.a 195)), .sx .u8 (.wrap .u8 (.a 196)), .sx .u8 (.wrap .u8 (.a 197)), .sx .u8 (.wrap .u8 (.a 198)), .sx .u8 (.wrap .u8 (.a 199))]

noncomputable def takeX (n : Nat) : List SX → List SX :=
  Nat.rec (motive := fun _ => List SX → List SX) (fun _ => []) (fun _ ih l => List.rec (motive := fun _ => List SX) [] (fun x r _ => x :: ih r) l) n

theorem takeX_eq : ∀ (n : Nat) (l : List SX), takeX n l = l.take n := by
  intro n
  induction n with
  | zero => intro l; rfl
  | succ n ih => intro l; cases l with
    | nil => rfl
    | cons x r => show x :: takeX n r = _; rw [ih r]; rfl

theorem takeL_eq' : ∀ (n : Nat) (l : List AV), takeL n l = l.take n := by
  intro n
  induction n with
  | zero => intro l; rfl
  | succ n ih => intro l; cases l with
    | nil => rfl
    | cons x r => show x :: takeL n r = _; rw [ih r]; rfl

abbrev a (k : Nat) : AV := .sx .i64 (.a k)

abbrev bo (k : Nat) : AV := .sb (.eq (.a k) (.c 1))

abbrev ci (n : Nat) : AV := .v (.int .i64 (.ofNat n))

noncomputable abbrev outs (n : Nat) : List (Nat × List AV) := [(1, takeL n c100)]

abbrev sl (n : Nat) : AV := .os 0 0 n 12 0

noncomputable abbrev stab (n : Nat) (size : AV) : List (FuncId × List SX × List AV × AV) := [(11, takeX n b100, [a 3, size, bo 4], .tup [a 5, a 6]), (12, takeX n b100, [a 3, size, bo 4], .tup [a 5, a 6])]

abbrev tabB : List (FuncId × List AV × AV) := [(16, [a 0, a 1], bo 7), (17, [a 0, a 1], bo 7), (18, [a 0, a 1], bo 8), (19, [a 0, a 1], bo 8), (20, [a 0, a 1], a 9), (21, [a 0, a 1], a 9), (22, [a 0, a 1], a 10), (23, [a 0, a 1], a 10)]

/-- There is no such size. -/
abbrev tabZ : List (FuncId × List AV × AV) := (35, [a 2], nay) :: (36, [a 2], nay) :: tabB

/-- The number is too wide. -/
abbrev tabN : List (FuncId × List AV × AV) := (35, [a 2], yes) :: (36, [a 2], yes) :: (18, [a 0, .sx .i64 (.wrap .i64 (.mul (.c 8) (.a 2)))], nay) :: (19, [a 0, .sx .i64 (.wrap .i64 (.mul (.c 8) (.a 2)))], nay) :: tabB

/-- It is not. -/
abbrev tabS (s : Nat) : List (FuncId × List AV × AV) := (18, [a 0, ci (8 * s)], yes) :: (19, [a 0, ci (8 * s)], yes) :: tabB

abbrev eqF (k : Nat) : Fact := .at (.eq (.wrap .u8 (.shr (.wrap .u64 (.a 0)) (8 * k))) (.wrap .u8 (.shr (.a 0) (8 * k)))) true

abbrev eqs (s : Nat) : List Fact := match s with
  | 1 => [eqF 0]
  | 2 => [eqF 0, eqF 1]
  | 4 => [eqF 0, eqF 1, eqF 2, eqF 3]
  | 8 => [eqF 0, eqF 1, eqF 2, eqF 3, eqF 4, eqF 5, eqF 6, eqF 7]
  | _ => []

abbrev lenF (n : Nat) : Fact := .ge (.a 12) (.ofNat n)

theorem awakeOK [Syms] : CallerOK Try.prog (known 24 yes []) := known_of_run (ids := []) (fuel := 1000) noOrc_sound mix (by kernel_rfl) (by kernel_rfl)

abbrev Law (n : Nat) (size : AV) (val : Nat → Int) : Prop := LawO Try.prog 3 [a 0, a 1, size, sl n, a 3, bo 4] (outs n) sl0 val

noncomputable abbrev runL (val : Nat → Int) (F : List Fact) (h : Holds val F) (n : Nat) (size : AV) (tab : List (FuncId × List AV × AV)) : Bool :=
  saysTrue (@runO (symsOf val F h sl0) Try.prog (orElse (known 24 yes []) (orElse (tabO tab) (@slTab (symsOf val F h sl0) (stab n size)))) 1000 3 [a 0, a 1, size, sl n, a 3, bo 4] (outs n))

theorem leaf {val : Nat → Int} {F : List Fact} (h : Holds val F) {n : Nat} {size : AV} {tab : List (FuncId × List AV × AV)} (hw : wfV (· < 1) size) (hpl : (outs n).all plainO = true) (hb : tab.all (fun x => bodyOK Try.prog x.1) = true) (hp : tab.all (fun x => plain x.2.2 && plains x.2.1) = true)
    (hb' : (stab n size).all (fun x => bodyOK Try.prog x.1) = true) (hp' : (stab n size).all (fun x => plain x.2.2.2 && plains x.2.2.1) = true) (hg : runL val F h n size tab = true) (ht : TabOK Try.prog val sl0 tab) (ht' : SlTabOK Try.prog val sl0 (stab n size)) : Law n size val :=
  leafOS (orc := known 24 yes []) h awakeOK mix ⟨trivial, trivial, hw, Nat.zero_lt_one, trivial, trivial, trivial⟩ hpl hb hp ht hb' hp' ht' hg

/-- The law, of so many bytes. -/
structure DL (n : Nat) : Prop where
  z : ∀ val, Holds val [lenF n] → TabOK Try.prog val sl0 tabZ → SlTabOK Try.prog val sl0 (stab n (a 2)) → Law n (a 2) val
  nw : ∀ val, Holds val [lenF n] → TabOK Try.prog val sl0 tabN → SlTabOK Try.prog val sl0 (stab n (a 2)) → Law n (a 2) val
  s1 : ∀ val, Holds val (lenF n :: eqs 1) → TabOK Try.prog val sl0 (tabS 1) → SlTabOK Try.prog val sl0 (stab n (ci 1)) → Law n (ci 1) val
  s2 : ∀ val, Holds val (lenF n :: eqs 2) → TabOK Try.prog val sl0 (tabS 2) → SlTabOK Try.prog val sl0 (stab n (ci 2)) → Law n (ci 2) val
  s4 : ∀ val, Holds val (lenF n :: eqs 4) → TabOK Try.prog val sl0 (tabS 4) → SlTabOK Try.prog val sl0 (stab n (ci 4)) → Law n (ci 4) val
  s8 : ∀ val, Holds val (lenF n :: eqs 8) → TabOK Try.prog val sl0 (tabS 8) → SlTabOK Try.prog val sl0 (stab n (ci 8)) → Law n (ci 8) val

end Go.Proofs.Ytclgmeoofmidfaa.TellsL
